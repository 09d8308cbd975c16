/- The functions that the law reaches as plain Lean functions, and of each a proof that its call computes it. Conditions: those that each theorem names. -/
import Derived.Test.YtlkofdedkfmaeaaWS
import Derived.Test.YtlkofdedkfmaeaaXFnExactDeliveredOncex0
import Derived.Test.YtlkofdedkfmaeaaXFnExactDeliveredOncex5
namespace Go.Proofs.Ytlkofdedkfmaeaa.XFnExactDeliveredOnce
open Go.RowKit Go.Proofs.YtlkofdedkfmaeaaW.PrintWords Go.Proofs.YtlkofdedkfmaeaaW.PrintLast Go.Proofs.YtlkofdedkfmaeaaW.PrintMore Go.Proofs.Ytlkofdedkfmaeaa.X
attribute [local go_sem] max2_int min2_int max_two min_two max_three min_three max_four min_four   -- for this text's walks alone
set_option linter.unusedVariables false
set_option linter.unusedSimpArgs false

/-! ### laws_eqAirFrameS: function 145 -/
def laws_eqAirFrameS.l0 : Nat → List (S88) → List (S88) → Int → Option (Bool)
 | 0, _, _, _ => none
 | k + 1, x0, x1, x5 => if x5 < (x0.length : Int) then (if 0 ≤ x5 then (if x5 < (x1.length : Int) then ((laws_eqAirFrame.f k ((rd_T88 x0 x5).f0) ((rd_T88 x0 x5).f1) ((rd_T88 x0 x5).f2) ((rd_T88 x0 x5).f3) ((rd_T88 x0 x5).f4) ((rd_T88 x1 x5).f0) ((rd_T88 x1 x5).f1) ((rd_T88 x1 x5).f2) ((rd_T88 x1 x5).f3) ((rd_T88 x1 x5).f4)).bind fun t330 => (if t330 = true then (laws_eqAirFrameS.l0 k x0 x1 (wrap64 (x5 + 1))) else (some false))) else (none)) else (none)) else (some true)
def laws_eqAirFrameS.f (k : Nat) (l0 : List (S88)) (l1 : List (S88)) : Option (Bool) := if (l0.length : Int) = (l1.length : Int) then (laws_eqAirFrameS.l0 k l0 l1 0) else (some false)
theorem laws_eqAirFrameS.mono_l : ∀ k, (∀ y0 y1 y2, LeO (laws_eqAirFrameS.l0 k y0 y1 y2) (laws_eqAirFrameS.l0 (k + 1) y0 y1 y2))
 | 0 => fun _ _ _ r h => by simp [laws_eqAirFrameS.l0] at h
 | k + 1 => by
  have ih0 := laws_eqAirFrameS.mono_l k
  ·intro y0 y1 y2
   unfold laws_eqAirFrameS.l0
   repeat' first
   | (with_reducible exact ih0 _ _ _)
   | (with_reducible exact laws_eqAirFrame.mono _ _ _ _ _ _ _ _ _ _ _)
   | (with_reducible exact LeO.refl _)
   | (with_reducible exact LeO.none _)
   | (with_reducible refine LeO.ite ?_ ?_)
   | (with_reducible refine LeO.bind ?_ (fun _ => ?_))
   | exact ih0 _ _ _
   | exact laws_eqAirFrame.mono _ _ _ _ _ _ _ _ _ _ _
   | exact LeO.none _
   | refine LeO.ite ?_ ?_
   | refine LeO.bind ?_ (fun _ => ?_)
theorem laws_eqAirFrameS.mono : ∀ a0 a1 k, LeO (laws_eqAirFrameS.f k a0 a1) (laws_eqAirFrameS.f (k + 1) a0 a1) := by
 intro a0 a1 k
 have ih0 := laws_eqAirFrameS.mono_l k
 unfold laws_eqAirFrameS.f
 repeat' first
   | (with_reducible exact ih0 _ _ _)
   | (with_reducible exact laws_eqAirFrame.mono _ _ _ _ _ _ _ _ _ _ _)
   | (with_reducible exact LeO.refl _)
   | (with_reducible exact LeO.none _)
   | (with_reducible refine LeO.ite ?_ ?_)
   | (with_reducible refine LeO.bind ?_ (fun _ => ?_))
   | exact ih0 _ _ _
   | exact laws_eqAirFrame.mono _ _ _ _ _ _ _ _ _ _ _
   | exact LeO.none _
   | refine LeO.ite ?_ ?_
   | refine LeO.bind ?_ (fun _ => ?_)
def laws_eqAirFrameS.T6 : Bool × List (List Nat × List Nat) := (true, [([], []), ([], []), ([0, 1], [0, 1]), ([2], [2]), ([], []), ([], []), ([4, 5], [4, 5]), ([6], [6]), ([3, 7], [3, 7]), ([8], [8])])
def laws_eqAirFrameS.B6 : List Nat := [0, 0, 3, 7, 0, 0, 48, 112, 255, 511]
theorem laws_eqAirFrameS.tab6 : rtab .any (opsOf Try.f145 6) = laws_eqAirFrameS.T6 := by kernel_rfl
theorem laws_eqAirFrameS.bits6 : waitsOk laws_eqAirFrameS.T6.2 laws_eqAirFrameS.B6 = true := by kernel_rfl
set_option maxHeartbeats 8000000 in
set_option maxRecDepth 100000 in
theorem laws_eqAirFrameS.calls (k : Nat) (A0 : Option Addr) (c0 : Nat) (l0 : List (S88)) (A1 : Option Addr) (c1 : Nat) (l1 : List (S88)) (r : Bool) (w : World) (hr0 : Kd.C k88 w A0 l0.length l0) (hc0 : l0.length ≤ c0) (hr1 : Kd.C k88 w A1 l1.length l1) (hc1 : l1.length ≤ c1) (h : laws_eqAirFrameS.f k l0 l1 = some r) (hT : r = true := by rfl) :
  Calls Try.prog 145 #[.slice A0 l0.length c0, .slice A1 l1.length c1] w fun e w' => e = .returned (.bool r) ∧ Below w.heap.size w w' := by
 have hu88 := Try.underlying88
 have HR0 := Am_ hr0
 have HC0 := Am_ hc0
 clear hr0 hc0
 have HR1 := Am_ hr1
 have HC1 := Am_ hc1
 clear hr1 hc1
 have HB := Am_ (Below.refl w.heap.size w)
 have H : (if (l0.length : Int) = (l1.length : Int) then (laws_eqAirFrameS.l0 k l0 l1 0) else (some false)) = some r := h
 clear h
 by_cases c3 : (l0.length : Int) = (l1.length : Int)
 ·rw [if_pos c3] at H
  have c3b0 : ((l0.length : Int) == (l1.length : Int)) = true := beq_iff_eq.mpr c3
  have c3b1 : ((l0.length : Int) != (l1.length : Int)) = false := bne_eq_false_iff_eq.mpr c3
  have c3b2 : (l0.length == l1.length) = true := by first | simpa using c3 | (simp at c3 ⊢; omega)
  clear c3
  have H' := Am_ H
  clear H
  go_enter Try.func145, Try.ntmps145
  go_wp2
  go_loopg [5] k (fun kq v5 w' => ∃ (x5_1 : Int), v5 = .int .i64 x5_1 ∧ Aside0 (laws_eqAirFrameS.l0 kq l0 l1 x5_1 = some r) ∧ Aside0 (kq ≤ k) ∧ Aside0 (Below w.heap.size w w'))
  case atStart => exact ⟨(0), (by first | rfl | (simp; done) | (simp [*]; done)), H', ⟨Nat.le_refl _⟩, ⟨by repeat (first | (with_reducible first | exact HB.1 | apply bA_ | apply bN_ | apply bD_) | exact HB.1)⟩⟩
  case round =>
   clear H'
   try clear c1
   try clear p2
   try clear c3
   try clear c3b0
   try clear c3b1
   try clear c3b2
   obtain ⟨x5_1, rfl, HA, HK1, HB⟩ := hrel
   cases gk with
   | zero => exact absurd HA.1 (by simp [laws_eqAirFrameS.l0])
   | succ k1 =>
    have H := HA.1
    clear HA
    simp only [laws_eqAirFrameS.l0] at H
    by_cases c4 : x5_1 < (l0.length : Int)
    ·rw [if_pos c4] at H
     have c4b0 : decide (x5_1 < (l0.length : Int)) = true := decide_eq_true c4
     clear c4
     by_cases c5 : 0 ≤ x5_1
     ·rw [if_pos c5] at H
      have c5b0 : decide (0 ≤ x5_1) = true := decide_eq_true c5
      clear c5
      by_cases c6 : x5_1 < (l1.length : Int)
      ·rw [if_pos c6] at H
       have c6b0 : decide (x5_1 < (l1.length : Int)) = true := decide_eq_true c6
       clear c6
       replace H := Option.bind_eq_some_iff.mp H
       obtain ⟨t330, A70, H⟩ := H
       replace H : (if t330 = true then (laws_eqAirFrameS.l0 k1 l0 l1 (wrap64 (x5_1 + 1))) else (some false)) = some r := H
       have A7 := Am_ A70
       clear A70
       by_cases c8 : t330 = true
       ·subst c8
        have H1 : (laws_eqAirFrameS.l0 k1 l0 l1 (wrap64 (x5_1 + 1))) = some r := by rw [if_pos rfl] at H; exact H
        clear H
        have H := H1
        clear H1
        have H' := Am_ H
        clear H
        try go_wp2
        have n0_ := Am_ (bD_ HB.1)
        clear HB
        have HB := n0_
        clear n0_
        have p328 : 0 ≤ (x5_1 : Int) := of_decide_eq_true (by first | (with_reducible assumption) | assumption)
        have q328 : x5_1 < (l0.length : Int) := of_decide_eq_true (by first | (with_reducible assumption) | assumption)
        obtain ⟨ad328, A328_3, c328_3, e328, hx328_0, hx328_1, hx328_2, hx328_3, hx328_4, hl328_3, hi328_3⟩ := at_T88 HR0.1 x5_1 p328 q328
        have hw328_4 := hx328_4
        have hw328_3 := hx328_3
        have hw328_2 := hx328_2
        have hw328_1 := hx328_1
        have hw328_0 := hx328_0
        cases e328
        replace hx328_0 := (HB.1.cell (World.block_lt_of_cell? w _ hx328_0)).trans hx328_0
        replace hx328_1 := (HB.1.cell (World.block_lt_of_cell? w _ hx328_1)).trans hx328_1
        replace hx328_2 := (HB.1.cell (World.block_lt_of_cell? w _ hx328_2)).trans hx328_2
        replace hx328_3 := (HB.1.cell (World.block_lt_of_cell? w _ hx328_3)).trans hx328_3
        replace hx328_4 := (HB.1.cell (World.block_lt_of_cell? w _ hx328_4)).trans hx328_4
        have HR328_3 := Am_ hi328_3
        have HC328_3 := Am_ hl328_3
        clear hi328_3 hl328_3
        replace p328 := eq_true p328
        replace q328 := eq_true q328
        have p329 : 0 ≤ (x5_1 : Int) := of_decide_eq_true (by first | (with_reducible assumption) | assumption)
        have q329 : x5_1 < (l1.length : Int) := of_decide_eq_true (by first | (with_reducible assumption) | assumption)
        obtain ⟨ad329, A329_3, c329_3, e329, hx329_0, hx329_1, hx329_2, hx329_3, hx329_4, hl329_3, hi329_3⟩ := at_T88 HR1.1 x5_1 p329 q329
        have hw329_4 := hx329_4
        have hw329_3 := hx329_3
        have hw329_2 := hx329_2
        have hw329_1 := hx329_1
        have hw329_0 := hx329_0
        cases e329
        replace hx329_0 := (HB.1.cell (World.block_lt_of_cell? w _ hx329_0)).trans hx329_0
        replace hx329_1 := (HB.1.cell (World.block_lt_of_cell? w _ hx329_1)).trans hx329_1
        replace hx329_2 := (HB.1.cell (World.block_lt_of_cell? w _ hx329_2)).trans hx329_2
        replace hx329_3 := (HB.1.cell (World.block_lt_of_cell? w _ hx329_3)).trans hx329_3
        replace hx329_4 := (HB.1.cell (World.block_lt_of_cell? w _ hx329_4)).trans hx329_4
        have HR329_3 := Am_ hi329_3
        have HC329_3 := Am_ hl329_3
        clear hi329_3 hl329_3
        replace p329 := eq_true p329
        replace q329 := eq_true q329
        refine start_ (n := 10) (S := fun w' => w'.cell? (ad328.add ((x5_1).toNat * 5)) = some (.int .i64 ((rd_T88 l0 x5_1).f0)) ∧ w'.cell? ⟨(ad328.add ((x5_1).toNat * 5)).block, (ad328.add ((x5_1).toNat * 5)).off + 1, none⟩ = some (.int .i64 ((rd_T88 l0 x5_1).f1)) ∧ w'.cell? ⟨(ad328.add ((x5_1).toNat * 5)).block, (ad328.add ((x5_1).toNat * 5)).off + 2, none⟩ = some (.int .i64 ((rd_T88 l0 x5_1).f2)) ∧ w'.cell? ⟨(ad328.add ((x5_1).toNat * 5)).block, (ad328.add ((x5_1).toNat * 5)).off + 3, none⟩ = some (.slice A328_3 ((rd_T88 l0 x5_1).f3).length c328_3) ∧ w'.cell? ⟨(ad328.add ((x5_1).toNat * 5)).block, (ad328.add ((x5_1).toNat * 5)).off + 4, none⟩ = some (.bool ((rd_T88 l0 x5_1).f4)) ∧ w'.cell? (ad329.add ((x5_1).toNat * 5)) = some (.int .i64 ((rd_T88 l1 x5_1).f0)) ∧ w'.cell? ⟨(ad329.add ((x5_1).toNat * 5)).block, (ad329.add ((x5_1).toNat * 5)).off + 1, none⟩ = some (.int .i64 ((rd_T88 l1 x5_1).f1)) ∧ w'.cell? ⟨(ad329.add ((x5_1).toNat * 5)).block, (ad329.add ((x5_1).toNat * 5)).off + 2, none⟩ = some (.int .i64 ((rd_T88 l1 x5_1).f2)) ∧ w'.cell? ⟨(ad329.add ((x5_1).toNat * 5)).block, (ad329.add ((x5_1).toNat * 5)).off + 3, none⟩ = some (.slice A329_3 ((rd_T88 l1 x5_1).f3).length c329_3) ∧ w'.cell? ⟨(ad329.add ((x5_1).toNat * 5)).block, (ad329.add ((x5_1).toNat * 5)).off + 4, none⟩ = some (.bool ((rd_T88 l1 x5_1).f4))) (ds := []) #[false, false, false, false, false, false, false, false, false, false] (by kernel_rfl) rfl rfl ⟨((HB.1.cell (World.block_lt_of_cell? w _ hw328_0)).trans hw328_0), ((HB.1.cell (World.block_lt_of_cell? w _ hw328_1)).trans hw328_1), ((HB.1.cell (World.block_lt_of_cell? w _ hw328_2)).trans hw328_2), ((HB.1.cell (World.block_lt_of_cell? w _ hw328_3)).trans hw328_3), ((HB.1.cell (World.block_lt_of_cell? w _ hw328_4)).trans hw328_4), ((HB.1.cell (World.block_lt_of_cell? w _ hw329_0)).trans hw329_0), ((HB.1.cell (World.block_lt_of_cell? w _ hw329_1)).trans hw329_1), ((HB.1.cell (World.block_lt_of_cell? w _ hw329_2)).trans hw329_2), ((HB.1.cell (World.block_lt_of_cell? w _ hw329_3)).trans hw329_3), ((HB.1.cell (World.block_lt_of_cell? w _ hw329_4)).trans hw329_4)⟩ (fun hHeld => ?_); refine with_tabW laws_eqAirFrameS.tab6 laws_eqAirFrameS.bits6 (fun HT_ HW_ => ?_)
        generalize wr.drew = w9 at HB HR328_3 HR329_3 hx328_0 hx328_1 hx328_2 hx328_3 hx328_4 hx329_0 hx329_1 hx329_2 hx329_3 hx329_4 hHeld ⊢
        refine pure_ (i := 0) (N := some 17) (v := ?_) (a' := ?_) #[true, false, false, false, false, false, false, false, false, false] rfl rfl (any_of HT_.out (by kernel_rfl)) (fun _ _ _ h => h) (Or.inl ⟨by rfl, ?_⟩) ?_ ?_
        rotate_left
        ·intro w'
         go_simp
         with_reducible rfl
        rotate_left
        ·simp only [Act.put, List.setIfInBounds_toArray, List.set_cons_zero, List.set_cons_succ, i64_w, i32_w]
         rfl
        refine pure_ (i := 1) (N := some 18) (v := ?_) (a' := ?_) #[true, true, false, false, false, false, false, false, false, false] rfl rfl (any_of HT_.out (by kernel_rfl)) (fun _ _ _ h => h) (Or.inl ⟨by rfl, ?_⟩) ?_ ?_
        rotate_left
        ·intro w'
         go_simp
         with_reducible rfl
        rotate_left
        ·simp only [Act.put, List.setIfInBounds_toArray, List.set_cons_zero, List.set_cons_succ, i64_w, i32_w]
         rfl
        refine pure_ (i := 2) (N := some 19) (v := ?_) (a' := ?_) #[true, true, true, false, false, false, false, false, false, false] rfl rfl (any_of HT_.out (by kernel_rfl)) (fun _ _ _ h => h) (Or.inl ⟨by rfl, ?_⟩) ?_ ?_
        rotate_left
        ·intro w'
         go_simp
         with_reducible rfl
        rotate_left
        ·simp only [Act.put, List.setIfInBounds_toArray, List.set_cons_zero, List.set_cons_succ, i64_w, i32_w]
         rfl
        refine pure_ (i := 4) (N := some 21) (v := ?_) (a' := ?_) #[true, true, true, false, true, false, false, false, false, false] rfl rfl (any_of HT_.out (by kernel_rfl)) (fun _ _ _ h => h) (Or.inl ⟨by rfl, ?_⟩) ?_ ?_
        rotate_left
        ·intro w'
         go_simp
         with_reducible rfl
        rotate_left
        ·simp only [Act.put, List.setIfInBounds_toArray, List.set_cons_zero, List.set_cons_succ, i64_w, i32_w]
         rfl
        refine pure_ (i := 5) (N := some 22) (v := ?_) (a' := ?_) #[true, true, true, false, true, true, false, false, false, false] rfl rfl (any_of HT_.out (by kernel_rfl)) (fun _ _ _ h => h) (Or.inl ⟨by rfl, ?_⟩) ?_ ?_
        rotate_left
        ·intro w'
         go_simp
         with_reducible rfl
        rotate_left
        ·simp only [Act.put, List.setIfInBounds_toArray, List.set_cons_zero, List.set_cons_succ, i64_w, i32_w]
         rfl
        refine pure_ (i := 6) (N := some 23) (v := ?_) (a' := ?_) #[true, true, true, false, true, true, true, false, false, false] rfl rfl (any_of HT_.out (by kernel_rfl)) (fun _ _ _ h => h) (Or.inl ⟨by rfl, ?_⟩) ?_ ?_
        rotate_left
        ·intro w'
         go_simp
         with_reducible rfl
        rotate_left
        ·simp only [Act.put, List.setIfInBounds_toArray, List.set_cons_zero, List.set_cons_succ, i64_w, i32_w]
         rfl
        refine take_ (i := 3) (N := some 20) (v := ?_) (a' := ?_) #[true, true, true, true, true, true, true, false, false, false] rfl rfl (take_ofW HT_.out HW_.out (by kernel_rfl)) (fun _ _ _ h => h) (Or.inl ⟨by rfl, ?_⟩) hHeld ?_ ?_
        rotate_left
        ·rintro w' ⟨s0, s1, s2, s3, s4, s5, s6, s7, s8, s9⟩
         go_simp
         with_reducible rfl
        rotate_left
        ·simp only [Act.put, List.setIfInBounds_toArray, List.set_cons_zero, List.set_cons_succ, i64_w, i32_w]
         rfl
        refine take_ (i := 7) (N := some 24) (v := ?_) (a' := ?_) #[true, true, true, true, true, true, true, true, false, false] rfl rfl (take_ofW HT_.out HW_.out (by kernel_rfl)) (fun _ _ _ h => h) (Or.inl ⟨by rfl, ?_⟩) hHeld ?_ ?_
        rotate_left
        ·rintro w' ⟨s0, s1, s2, s3, s4, s5, s6, s7, s8, s9⟩
         go_simp
         with_reducible rfl
        rotate_left
        ·simp only [Act.put, List.setIfInBounds_toArray, List.set_cons_zero, List.set_cons_succ, i64_w, i32_w]
         rfl
        refine one_ (i := 8) (N := some 25) #[true, true, true, true, true, true, true, true, true, false] rfl rfl (one_of HT_.out (by kernel_rfl)) (by decide) (fun K hK => ?_)
        refine goes_ Try.func143 (by kernel_rfl) rfl #[.agg #[.int .i64 ((rd_T88 l0 x5_1).f0), .int .i64 ((rd_T88 l0 x5_1).f1), .int .i64 ((rd_T88 l0 x5_1).f2), .slice A328_3 ((rd_T88 l0 x5_1).f3).length c328_3, .bool ((rd_T88 l0 x5_1).f4)], .agg #[.int .i64 ((rd_T88 l1 x5_1).f0), .int .i64 ((rd_T88 l1 x5_1).f1), .int .i64 ((rd_T88 l1 x5_1).f2), .slice A329_3 ((rd_T88 l1 x5_1).f3).length c329_3, .bool ((rd_T88 l1 x5_1).f4)]] (by rfl) rfl rfl (by (try simp only [List.map_toArray, List.map_cons, List.map_nil]); first | done | rfl | (simp only [List.length_drop, List.length_take]; rfl)) ?_
        with_reducible refine (laws_eqAirFrame.calls k1 ((rd_T88 l0 x5_1).f0) ((rd_T88 l0 x5_1).f1) ((rd_T88 l0 x5_1).f2) _ _ ((rd_T88 l0 x5_1).f3) ((rd_T88 l0 x5_1).f4) ((rd_T88 l1 x5_1).f0) ((rd_T88 l1 x5_1).f1) ((rd_T88 l1 x5_1).f2) _ _ ((rd_T88 l1 x5_1).f3) ((rd_T88 l1 x5_1).f4) true _ ?side1 ?side2 ?side3 ?side4 A7.1).mono ?_
        (case side1 => repeat (first | exact (Kd.C_below HR328_3.1 HB.1) | (with_reducible refine Kd.C_alloc ?_ _) | (with_reducible refine Kd.C_drewN ?_ _) | (with_reducible refine Kd.C_drew ?_)))
        (case side2 => exact HC328_3.1)
        (case side3 => repeat (first | exact (Kd.C_below HR329_3.1 HB.1) | (with_reducible refine Kd.C_alloc ?_ _) | (with_reducible refine Kd.C_drewN ?_ _) | (with_reducible refine Kd.C_drew ?_)))
        (case side4 => exact HC329_3.1)
        rintro e w10 ⟨rfl, hb⟩
        refine ⟨_, rfl, ?_⟩
        have n0_ := Am_ (bT_ (by repeat (first | (with_reducible first | exact HB.1 | apply bA_ | apply bN_ | apply bD_) | exact HB.1)) hb)
        clear HB
        have HB := n0_
        clear n0_
        (try clear hb)
        (try clear hb2)
        (try clear hk)
        (try clear hi)
        refine hK.out _ _ ⟨((HB.1.cell (World.block_lt_of_cell? w _ hw328_0)).trans hw328_0), ((HB.1.cell (World.block_lt_of_cell? w _ hw328_1)).trans hw328_1), ((HB.1.cell (World.block_lt_of_cell? w _ hw328_2)).trans hw328_2), ((HB.1.cell (World.block_lt_of_cell? w _ hw328_3)).trans hw328_3), ((HB.1.cell (World.block_lt_of_cell? w _ hw328_4)).trans hw328_4), ((HB.1.cell (World.block_lt_of_cell? w _ hw329_0)).trans hw329_0), ((HB.1.cell (World.block_lt_of_cell? w _ hw329_1)).trans hw329_1), ((HB.1.cell (World.block_lt_of_cell? w _ hw329_2)).trans hw329_2), ((HB.1.cell (World.block_lt_of_cell? w _ hw329_3)).trans hw329_3), ((HB.1.cell (World.block_lt_of_cell? w _ hw329_4)).trans hw329_4)⟩ (fun hHeld => ?_)
        clear hK K
        refine norm_ (a' := ?_) ?_ ?_
        rotate_left
        ·show Act.put _ (some 25) _ = _
         simp only [Act.put, List.setIfInBounds_toArray, List.set_cons_zero, List.set_cons_succ, i64_w, i32_w]
         rfl
        refine pure_ (i := 9) (N := some 26) (v := ?_) (a' := ?_) #[true, true, true, true, true, true, true, true, true, true] rfl rfl (any_of HT_.out (by kernel_rfl)) (fun _ _ _ h => h) (Or.inl ⟨by rfl, ?_⟩) ?_ ?_
        rotate_left
        ·intro w'
         go_simp
         with_reducible rfl
        rotate_left
        ·simp only [Act.put, List.setIfInBounds_toArray, List.set_cons_zero, List.set_cons_succ, i64_w, i32_w]
         rfl
        refine done_ (done_of HT_.out (by kernel_rfl)) ?_
        try go_wp2
        go_roundg k1
        case measure => have := HK1.1; omega
        case rel => exact ⟨(wrap64 (x5_1 + 1)), (by first | rfl | (simp; done) | (simp [*]; done)), H', ⟨by have := HK1.1; omega⟩, ⟨by repeat (first | (with_reducible first | exact HB.1 | apply bA_ | apply bN_ | apply bD_) | exact HB.1)⟩⟩
       ·replace c8 := Bool.eq_false_iff.mpr c8
        subst c8
        have H1 : (some false) = some r := by rw [if_neg (show ¬ (false = true) by decide)] at H; exact H
        clear H
        have H := H1
        clear H1
        obtain rfl := Option.some.inj H
        exact absurd hT (by decide)
      ·rw [if_neg c6] at H
       exact absurd H (by simp)
     ·rw [if_neg c5] at H
      exact absurd H (by simp)
    ·rw [if_neg c4] at H
     have c4b0 : decide (x5_1 < (l0.length : Int)) = false := decide_eq_false c4
     clear c4
     obtain rfl := Option.some.inj H
     go_wp2
     go_ret
     exact ⟨by first | rfl | (simp [errW_none, errW_some] <;> rfl) | (simp [*, errW_none, errW_some] <;> rfl), by repeat (first | (with_reducible first | exact HB.1 | apply bA_ | apply bN_ | apply bD_) | exact HB.1)⟩
 ·rw [if_neg c3] at H
  have c3b0 : ((l0.length : Int) == (l1.length : Int)) = false := beq_eq_false_iff_ne.mpr c3
  have c3b1 : ((l0.length : Int) != (l1.length : Int)) = true := bne_iff_ne.mpr c3
  have c3b2 : (l0.length == l1.length) = false := by first | simpa using c3 | (simp at c3 ⊢; omega)
  obtain rfl := Option.some.inj H
  exact absurd hT (by decide)

/-! ### laws_eqSeenFrame: function 169 -/
def laws_eqSeenFrame.f (a0_0 : Int) (a0_1 : Int) (a0_2 : Int) (a0_3 : Int) (a1_0 : Int) (a1_1 : Int) (a1_2 : Int) (a1_3 : Int) : Option (Bool) := if a0_0 = a1_0 then (if a0_1 = a1_1 then (if a0_2 = a1_2 then (if a0_3 = a1_3 then (some true) else (some false)) else (some false)) else (some false)) else (some false)
set_option maxHeartbeats 8000000 in
set_option maxRecDepth 100000 in
theorem laws_eqSeenFrame.calls (a0_0 : Int) (a0_1 : Int) (a0_2 : Int) (a0_3 : Int) (a1_0 : Int) (a1_1 : Int) (a1_2 : Int) (a1_3 : Int) (r : Bool) (w : World) (h : laws_eqSeenFrame.f a0_0 a0_1 a0_2 a0_3 a1_0 a1_1 a1_2 a1_3 = some r) (hT : r = true := by rfl) :
  Calls Try.prog 169 #[.agg #[.int .i64 a0_0, .int .i64 a0_1, .int .i64 a0_2, .int .i64 a0_3], .agg #[.int .i64 a1_0, .int .i64 a1_1, .int .i64 a1_2, .int .i64 a1_3]] w fun e w' => e = .returned (.bool r) ∧ Below w.heap.size w w' := by
 have hu141 := Try.underlying141
 have HB := Am_ (Below.refl w.heap.size w)
 have H : (if a0_0 = a1_0 then (if a0_1 = a1_1 then (if a0_2 = a1_2 then (if a0_3 = a1_3 then (some true) else (some false)) else (some false)) else (some false)) else (some false)) = some r := h
 clear h
 by_cases c3 : a0_0 = a1_0
 ·rw [if_pos c3] at H
  have c3b0 : (a0_0 == a1_0) = true := beq_iff_eq.mpr c3
  have c3b1 : (a0_0 != a1_0) = false := bne_eq_false_iff_eq.mpr c3
  clear c3
  by_cases c4 : a0_1 = a1_1
  ·rw [if_pos c4] at H
   have c4b0 : (a0_1 == a1_1) = true := beq_iff_eq.mpr c4
   have c4b1 : (a0_1 != a1_1) = false := bne_eq_false_iff_eq.mpr c4
   clear c4
   by_cases c5 : a0_2 = a1_2
   ·rw [if_pos c5] at H
    have c5b0 : (a0_2 == a1_2) = true := beq_iff_eq.mpr c5
    have c5b1 : (a0_2 != a1_2) = false := bne_eq_false_iff_eq.mpr c5
    clear c5
    by_cases c6 : a0_3 = a1_3
    ·rw [if_pos c6] at H
     have c6b0 : (a0_3 == a1_3) = true := beq_iff_eq.mpr c6
     have c6b1 : (a0_3 != a1_3) = false := bne_eq_false_iff_eq.mpr c6
     clear c6
     obtain rfl := Option.some.inj H
     go_enter Try.func169, Try.ntmps169
     go_wp2_with (first | ((with_reducible refine gate_dst (N := 2) rfl ?_); refine box_event ?hg (N := 2) ?hd (cs := #[.int .i64 a0_0, .int .i64 a0_1, .int .i64 a0_2, .int .i64 a0_3]) (t := 141) ?hr ?_; (case hd => rfl); (case hg => rfl); (case hr => first | (go_simp; done) | (go_simp; rfl)); intro gb331 hg w7 hbox hb; have n0_ := Am_ (bT_ (by repeat (first | (with_reducible first | exact HB.1 | apply bA_ | apply bN_ | apply bD_) | exact HB.1)) hb); have n1_ := Am_ (hbox); have n2_ := Am_ ((by rw [hg]; exact (bZ_ (by repeat (first | (with_reducible first | exact HB.1 | apply bA_ | apply bN_ | apply bD_) | exact HB.1))) : w.heap.size ≤ gb331)); have n3_ := Am_ ((by rw [hg]; exact (bZ_ (by repeat (first | (with_reducible first | exact HB.1 | apply bA_ | apply bN_ | apply bD_) | exact HB.1))) : w.heap.size ≤ gb331)); clear HB; have HB := n0_; have BK331 := n1_; have GW331 := n2_; have GE331 := n3_; clear n0_ n1_ n2_ n3_ hb hbox hg) | ((with_reducible refine gate_dst (N := 3) rfl ?_); refine box_event ?hg (N := 3) ?hd (cs := #[.int .i64 a1_0, .int .i64 a1_1, .int .i64 a1_2, .int .i64 a1_3]) (t := 141) ?hr ?_; (case hd => rfl); (case hg => rfl); (case hr => first | (go_simp; done) | (go_simp; rfl)); intro gb332 hg w8 hbox hb; have n0_ := Am_ (kB_ (g := gb331) (by (with_reducible repeat (first | refine kN_ ?_ _ | refine kD_ ?_ | refine kA_ ?_ _)); exact BK331.1) hb); have n1_ := Am_ (bT_ (by repeat (first | (with_reducible first | exact HB.1 | apply bA_ | apply bN_ | apply bD_ | refine bS_ ?_ GE331.1) | exact HB.1)) hb); have n2_ := Am_ (hbox); have n3_ := Am_ ((by rw [hg]; exact (bZ_ (by repeat (first | (with_reducible first | exact HB.1 | apply bA_ | apply bN_ | apply bD_ | refine bS_ ?_ GE331.1) | exact HB.1))) : w.heap.size ≤ gb332)); have n4_ := Am_ ((by rw [hg]; exact (bZ_ (by repeat (first | (with_reducible first | exact HB.1 | apply bA_ | apply bN_ | apply bD_ | refine bS_ ?_ GE331.1) | exact HB.1))) : w.heap.size ≤ gb332)); have n5_ := Am_ ((by rw [hg]; exact Nat.ne_of_lt (blk_lt (g := gb331) (by (with_reducible repeat (first | refine kN_ ?_ _ | refine kD_ ?_ | refine kA_ ?_ _)); exact BK331.1)) : gb331 ≠ gb332)); have n6_ := Am_ ((by rw [hg]; exact Nat.ne_of_gt (blk_lt (g := gb331) (by (with_reducible repeat (first | refine kN_ ?_ _ | refine kD_ ?_ | refine kA_ ?_ _)); exact BK331.1)) : gb332 ≠ gb331)); clear BK331 HB; have BK331 := n0_; have HB := n1_; have BK332 := n2_; have GW332 := n3_; have GE332 := n4_; have NB331_332 := n5_; have NB332_331 := n6_; clear n0_ n1_ n2_ n3_ n4_ n5_ n6_ hb hbox hg; have hnb9 := NB331_332.1; have hnc9 := NB332_331.1; have hcz10_0 : w8.cell? ⟨gb331, 0, none⟩ = some (.int .i64 a0_0) := kC_ BK331.1 0; have hcz10_1 : w8.cell? ⟨gb331, 1, none⟩ = some (.int .i64 a0_1) := kC_ BK331.1 1; have hcz10_2 : w8.cell? ⟨gb331, 2, none⟩ = some (.int .i64 a0_2) := kC_ BK331.1 2; have hcz10_3 : w8.cell? ⟨gb331, 3, none⟩ = some (.int .i64 a0_3) := kC_ BK331.1 3; have hfz10_0 := kF_ BK331.1 0; have hfz10_1 := kF_ BK331.1 1; have hfz10_2 := kF_ BK331.1 2; have hfz10_3 := kF_ BK331.1 3; have hcz11_0 : w8.cell? ⟨gb332, 0, none⟩ = some (.int .i64 a1_0) := kC_ BK332.1 0; have hcz11_1 : w8.cell? ⟨gb332, 1, none⟩ = some (.int .i64 a1_1) := kC_ BK332.1 1; have hcz11_2 : w8.cell? ⟨gb332, 2, none⟩ = some (.int .i64 a1_2) := kC_ BK332.1 2; have hcz11_3 : w8.cell? ⟨gb332, 3, none⟩ = some (.int .i64 a1_3) := kC_ BK332.1 3; have hfz11_0 := kF_ BK332.1 0; have hfz11_1 := kF_ BK332.1 1; have hfz11_2 := kF_ BK332.1 2; have hfz11_3 := kF_ BK332.1 3))
     go_ret
     exact ⟨by first | rfl | (simp [errW_none, errW_some] <;> rfl) | (simp [*, errW_none, errW_some] <;> rfl), by repeat (first | (with_reducible first | exact HB.1 | apply bA_ | apply bN_ | apply bD_ | refine bS_ ?_ GE331.1 | refine bS_ ?_ GE332.1) | exact HB.1)⟩
    ·rw [if_neg c6] at H
     have c6b0 : (a0_3 == a1_3) = false := beq_eq_false_iff_ne.mpr c6
     have c6b1 : (a0_3 != a1_3) = true := bne_iff_ne.mpr c6
     obtain rfl := Option.some.inj H
     exact absurd hT (by decide)
   ·rw [if_neg c5] at H
    have c5b0 : (a0_2 == a1_2) = false := beq_eq_false_iff_ne.mpr c5
    have c5b1 : (a0_2 != a1_2) = true := bne_iff_ne.mpr c5
    obtain rfl := Option.some.inj H
    exact absurd hT (by decide)
  ·rw [if_neg c4] at H
   have c4b0 : (a0_1 == a1_1) = false := beq_eq_false_iff_ne.mpr c4
   have c4b1 : (a0_1 != a1_1) = true := bne_iff_ne.mpr c4
   obtain rfl := Option.some.inj H
   exact absurd hT (by decide)
 ·rw [if_neg c3] at H
  have c3b0 : (a0_0 == a1_0) = false := beq_eq_false_iff_ne.mpr c3
  have c3b1 : (a0_0 != a1_0) = true := bne_iff_ne.mpr c3
  obtain rfl := Option.some.inj H
  exact absurd hT (by decide)

/-! ### laws_eqSeenFrameS: function 146 -/
def laws_eqSeenFrameS.l0 : Nat → List (S141) → List (S141) → Int → Option (Bool)
 | 0, _, _, _ => none
 | k + 1, x0, x1, x5 => if x5 < (x0.length : Int) then (if 0 ≤ x5 then (if x5 < (x1.length : Int) then ((laws_eqSeenFrame.f ((rd_T141 x0 x5).f0) ((rd_T141 x0 x5).f1) ((rd_T141 x0 x5).f2) ((rd_T141 x0 x5).f3) ((rd_T141 x1 x5).f0) ((rd_T141 x1 x5).f1) ((rd_T141 x1 x5).f2) ((rd_T141 x1 x5).f3)).bind fun t335 => (if t335 = true then (laws_eqSeenFrameS.l0 k x0 x1 (wrap64 (x5 + 1))) else (some false))) else (none)) else (none)) else (some true)
def laws_eqSeenFrameS.f (k : Nat) (l0 : List (S141)) (l1 : List (S141)) : Option (Bool) := if (l0.length : Int) = (l1.length : Int) then (laws_eqSeenFrameS.l0 k l0 l1 0) else (some false)
theorem laws_eqSeenFrameS.mono_l : ∀ k, (∀ y0 y1 y2, LeO (laws_eqSeenFrameS.l0 k y0 y1 y2) (laws_eqSeenFrameS.l0 (k + 1) y0 y1 y2))
 | 0 => fun _ _ _ r h => by simp [laws_eqSeenFrameS.l0] at h
 | k + 1 => by
  have ih0 := laws_eqSeenFrameS.mono_l k
  ·intro y0 y1 y2
   unfold laws_eqSeenFrameS.l0
   repeat' first
   | (with_reducible exact ih0 _ _ _)
   | (with_reducible exact LeO.refl _)
   | (with_reducible exact LeO.none _)
   | (with_reducible refine LeO.ite ?_ ?_)
   | (with_reducible refine LeO.bind ?_ (fun _ => ?_))
   | exact ih0 _ _ _
   | exact LeO.none _
   | refine LeO.ite ?_ ?_
   | refine LeO.bind ?_ (fun _ => ?_)
theorem laws_eqSeenFrameS.mono : ∀ a0 a1 k, LeO (laws_eqSeenFrameS.f k a0 a1) (laws_eqSeenFrameS.f (k + 1) a0 a1) := by
 intro a0 a1 k
 have ih0 := laws_eqSeenFrameS.mono_l k
 unfold laws_eqSeenFrameS.f
 repeat' first
   | (with_reducible exact ih0 _ _ _)
   | (with_reducible exact LeO.refl _)
   | (with_reducible exact LeO.none _)
   | (with_reducible refine LeO.ite ?_ ?_)
   | (with_reducible refine LeO.bind ?_ (fun _ => ?_))
   | exact ih0 _ _ _
   | exact LeO.none _
   | refine LeO.ite ?_ ?_
   | refine LeO.bind ?_ (fun _ => ?_)
def laws_eqSeenFrameS.T6 : Bool × List (List Nat × List Nat) := (true, [([], []), ([], []), ([0, 1], [0, 1]), ([2], [2]), ([], []), ([], []), ([4, 5], [4, 5]), ([6], [6]), ([3, 7], [3, 7]), ([8], [8])])
def laws_eqSeenFrameS.B6 : List Nat := [0, 0, 3, 7, 0, 0, 48, 112, 255, 511]
theorem laws_eqSeenFrameS.tab6 : rtab .any (opsOf Try.f146 6) = laws_eqSeenFrameS.T6 := by kernel_rfl
theorem laws_eqSeenFrameS.bits6 : waitsOk laws_eqSeenFrameS.T6.2 laws_eqSeenFrameS.B6 = true := by kernel_rfl
set_option maxHeartbeats 8000000 in
set_option maxRecDepth 100000 in
theorem laws_eqSeenFrameS.calls (k : Nat) (A0 : Option Addr) (c0 : Nat) (l0 : List (S141)) (A1 : Option Addr) (c1 : Nat) (l1 : List (S141)) (r : Bool) (w : World) (hr0 : Kd.C k141 w A0 l0.length l0) (hc0 : l0.length ≤ c0) (hr1 : Kd.C k141 w A1 l1.length l1) (hc1 : l1.length ≤ c1) (h : laws_eqSeenFrameS.f k l0 l1 = some r) (hT : r = true := by rfl) :
  Calls Try.prog 146 #[.slice A0 l0.length c0, .slice A1 l1.length c1] w fun e w' => e = .returned (.bool r) ∧ Below w.heap.size w w' := by
 have hu141 := Try.underlying141
 have HR0 := Am_ hr0
 have HC0 := Am_ hc0
 clear hr0 hc0
 have HR1 := Am_ hr1
 have HC1 := Am_ hc1
 clear hr1 hc1
 have HB := Am_ (Below.refl w.heap.size w)
 have H : (if (l0.length : Int) = (l1.length : Int) then (laws_eqSeenFrameS.l0 k l0 l1 0) else (some false)) = some r := h
 clear h
 by_cases c3 : (l0.length : Int) = (l1.length : Int)
 ·rw [if_pos c3] at H
  have c3b0 : ((l0.length : Int) == (l1.length : Int)) = true := beq_iff_eq.mpr c3
  have c3b1 : ((l0.length : Int) != (l1.length : Int)) = false := bne_eq_false_iff_eq.mpr c3
  have c3b2 : (l0.length == l1.length) = true := by first | simpa using c3 | (simp at c3 ⊢; omega)
  clear c3
  have H' := Am_ H
  clear H
  go_enter Try.func146, Try.ntmps146
  go_wp2
  go_loopg [5] k (fun kq v5 w' => ∃ (x5_1 : Int), v5 = .int .i64 x5_1 ∧ Aside0 (laws_eqSeenFrameS.l0 kq l0 l1 x5_1 = some r) ∧ Aside0 (kq ≤ k) ∧ Aside0 (Below w.heap.size w w'))
  case atStart => exact ⟨(0), (by first | rfl | (simp; done) | (simp [*]; done)), H', ⟨Nat.le_refl _⟩, ⟨by repeat (first | (with_reducible first | exact HB.1 | apply bA_ | apply bN_ | apply bD_) | exact HB.1)⟩⟩
  case round =>
   clear H'
   try clear c1
   try clear p2
   try clear c3
   try clear c3b0
   try clear c3b1
   try clear c3b2
   obtain ⟨x5_1, rfl, HA, HK1, HB⟩ := hrel
   cases gk with
   | zero => exact absurd HA.1 (by simp [laws_eqSeenFrameS.l0])
   | succ k1 =>
    have H := HA.1
    clear HA
    simp only [laws_eqSeenFrameS.l0] at H
    by_cases c4 : x5_1 < (l0.length : Int)
    ·rw [if_pos c4] at H
     have c4b0 : decide (x5_1 < (l0.length : Int)) = true := decide_eq_true c4
     clear c4
     by_cases c5 : 0 ≤ x5_1
     ·rw [if_pos c5] at H
      have c5b0 : decide (0 ≤ x5_1) = true := decide_eq_true c5
      clear c5
      by_cases c6 : x5_1 < (l1.length : Int)
      ·rw [if_pos c6] at H
       have c6b0 : decide (x5_1 < (l1.length : Int)) = true := decide_eq_true c6
       clear c6
       replace H := Option.bind_eq_some_iff.mp H
       obtain ⟨t335, A70, H⟩ := H
       replace H : (if t335 = true then (laws_eqSeenFrameS.l0 k1 l0 l1 (wrap64 (x5_1 + 1))) else (some false)) = some r := H
       have A7 := Am_ A70
       clear A70
       by_cases c8 : t335 = true
       ·subst c8
        have H1 : (laws_eqSeenFrameS.l0 k1 l0 l1 (wrap64 (x5_1 + 1))) = some r := by rw [if_pos rfl] at H; exact H
        clear H
        have H := H1
        clear H1
        have H' := Am_ H
        clear H
        try go_wp2
        have n0_ := Am_ (bD_ HB.1)
        clear HB
        have HB := n0_
        clear n0_
        have p333 : 0 ≤ (x5_1 : Int) := of_decide_eq_true (by first | (with_reducible assumption) | assumption)
        have q333 : x5_1 < (l0.length : Int) := of_decide_eq_true (by first | (with_reducible assumption) | assumption)
        obtain ⟨ad333, e333, hx333_0, hx333_1, hx333_2, hx333_3⟩ := at_T141 HR0.1 x5_1 p333 q333
        have hw333_3 := hx333_3
        have hw333_2 := hx333_2
        have hw333_1 := hx333_1
        have hw333_0 := hx333_0
        cases e333
        replace hx333_0 := (HB.1.cell (World.block_lt_of_cell? w _ hx333_0)).trans hx333_0
        replace hx333_1 := (HB.1.cell (World.block_lt_of_cell? w _ hx333_1)).trans hx333_1
        replace hx333_2 := (HB.1.cell (World.block_lt_of_cell? w _ hx333_2)).trans hx333_2
        replace hx333_3 := (HB.1.cell (World.block_lt_of_cell? w _ hx333_3)).trans hx333_3
        replace p333 := eq_true p333
        replace q333 := eq_true q333
        have p334 : 0 ≤ (x5_1 : Int) := of_decide_eq_true (by first | (with_reducible assumption) | assumption)
        have q334 : x5_1 < (l1.length : Int) := of_decide_eq_true (by first | (with_reducible assumption) | assumption)
        obtain ⟨ad334, e334, hx334_0, hx334_1, hx334_2, hx334_3⟩ := at_T141 HR1.1 x5_1 p334 q334
        have hw334_3 := hx334_3
        have hw334_2 := hx334_2
        have hw334_1 := hx334_1
        have hw334_0 := hx334_0
        cases e334
        replace hx334_0 := (HB.1.cell (World.block_lt_of_cell? w _ hx334_0)).trans hx334_0
        replace hx334_1 := (HB.1.cell (World.block_lt_of_cell? w _ hx334_1)).trans hx334_1
        replace hx334_2 := (HB.1.cell (World.block_lt_of_cell? w _ hx334_2)).trans hx334_2
        replace hx334_3 := (HB.1.cell (World.block_lt_of_cell? w _ hx334_3)).trans hx334_3
        replace p334 := eq_true p334
        replace q334 := eq_true q334
        refine start_ (n := 10) (S := fun w' => w'.cell? (ad333.add ((x5_1).toNat * 4)) = some (.int .i64 ((rd_T141 l0 x5_1).f0)) ∧ w'.cell? ⟨(ad333.add ((x5_1).toNat * 4)).block, (ad333.add ((x5_1).toNat * 4)).off + 1, none⟩ = some (.int .i64 ((rd_T141 l0 x5_1).f1)) ∧ w'.cell? ⟨(ad333.add ((x5_1).toNat * 4)).block, (ad333.add ((x5_1).toNat * 4)).off + 2, none⟩ = some (.int .i64 ((rd_T141 l0 x5_1).f2)) ∧ w'.cell? ⟨(ad333.add ((x5_1).toNat * 4)).block, (ad333.add ((x5_1).toNat * 4)).off + 3, none⟩ = some (.int .i64 ((rd_T141 l0 x5_1).f3)) ∧ w'.cell? (ad334.add ((x5_1).toNat * 4)) = some (.int .i64 ((rd_T141 l1 x5_1).f0)) ∧ w'.cell? ⟨(ad334.add ((x5_1).toNat * 4)).block, (ad334.add ((x5_1).toNat * 4)).off + 1, none⟩ = some (.int .i64 ((rd_T141 l1 x5_1).f1)) ∧ w'.cell? ⟨(ad334.add ((x5_1).toNat * 4)).block, (ad334.add ((x5_1).toNat * 4)).off + 2, none⟩ = some (.int .i64 ((rd_T141 l1 x5_1).f2)) ∧ w'.cell? ⟨(ad334.add ((x5_1).toNat * 4)).block, (ad334.add ((x5_1).toNat * 4)).off + 3, none⟩ = some (.int .i64 ((rd_T141 l1 x5_1).f3))) (ds := []) #[false, false, false, false, false, false, false, false, false, false] (by kernel_rfl) rfl rfl ⟨((HB.1.cell (World.block_lt_of_cell? w _ hw333_0)).trans hw333_0), ((HB.1.cell (World.block_lt_of_cell? w _ hw333_1)).trans hw333_1), ((HB.1.cell (World.block_lt_of_cell? w _ hw333_2)).trans hw333_2), ((HB.1.cell (World.block_lt_of_cell? w _ hw333_3)).trans hw333_3), ((HB.1.cell (World.block_lt_of_cell? w _ hw334_0)).trans hw334_0), ((HB.1.cell (World.block_lt_of_cell? w _ hw334_1)).trans hw334_1), ((HB.1.cell (World.block_lt_of_cell? w _ hw334_2)).trans hw334_2), ((HB.1.cell (World.block_lt_of_cell? w _ hw334_3)).trans hw334_3)⟩ (fun hHeld => ?_); refine with_tabW laws_eqSeenFrameS.tab6 laws_eqSeenFrameS.bits6 (fun HT_ HW_ => ?_)
        generalize wr.drew = w9 at HB hx333_0 hx333_1 hx333_2 hx333_3 hx334_0 hx334_1 hx334_2 hx334_3 hHeld ⊢
        refine pure_ (i := 0) (N := some 17) (v := ?_) (a' := ?_) #[true, false, false, false, false, false, false, false, false, false] rfl rfl (any_of HT_.out (by kernel_rfl)) (fun _ _ _ h => h) (Or.inl ⟨by rfl, ?_⟩) ?_ ?_
        rotate_left
        ·intro w'
         go_simp
         with_reducible rfl
        rotate_left
        ·simp only [Act.put, List.setIfInBounds_toArray, List.set_cons_zero, List.set_cons_succ, i64_w, i32_w]
         rfl
        refine pure_ (i := 1) (N := some 18) (v := ?_) (a' := ?_) #[true, true, false, false, false, false, false, false, false, false] rfl rfl (any_of HT_.out (by kernel_rfl)) (fun _ _ _ h => h) (Or.inl ⟨by rfl, ?_⟩) ?_ ?_
        rotate_left
        ·intro w'
         go_simp
         with_reducible rfl
        rotate_left
        ·simp only [Act.put, List.setIfInBounds_toArray, List.set_cons_zero, List.set_cons_succ, i64_w, i32_w]
         rfl
        refine pure_ (i := 2) (N := some 19) (v := ?_) (a' := ?_) #[true, true, true, false, false, false, false, false, false, false] rfl rfl (any_of HT_.out (by kernel_rfl)) (fun _ _ _ h => h) (Or.inl ⟨by rfl, ?_⟩) ?_ ?_
        rotate_left
        ·intro w'
         go_simp
         with_reducible rfl
        rotate_left
        ·simp only [Act.put, List.setIfInBounds_toArray, List.set_cons_zero, List.set_cons_succ, i64_w, i32_w]
         rfl
        refine pure_ (i := 4) (N := some 21) (v := ?_) (a' := ?_) #[true, true, true, false, true, false, false, false, false, false] rfl rfl (any_of HT_.out (by kernel_rfl)) (fun _ _ _ h => h) (Or.inl ⟨by rfl, ?_⟩) ?_ ?_
        rotate_left
        ·intro w'
         go_simp
         with_reducible rfl
        rotate_left
        ·simp only [Act.put, List.setIfInBounds_toArray, List.set_cons_zero, List.set_cons_succ, i64_w, i32_w]
         rfl
        refine pure_ (i := 5) (N := some 22) (v := ?_) (a' := ?_) #[true, true, true, false, true, true, false, false, false, false] rfl rfl (any_of HT_.out (by kernel_rfl)) (fun _ _ _ h => h) (Or.inl ⟨by rfl, ?_⟩) ?_ ?_
        rotate_left
        ·intro w'
         go_simp
         with_reducible rfl
        rotate_left
        ·simp only [Act.put, List.setIfInBounds_toArray, List.set_cons_zero, List.set_cons_succ, i64_w, i32_w]
         rfl
        refine pure_ (i := 6) (N := some 23) (v := ?_) (a' := ?_) #[true, true, true, false, true, true, true, false, false, false] rfl rfl (any_of HT_.out (by kernel_rfl)) (fun _ _ _ h => h) (Or.inl ⟨by rfl, ?_⟩) ?_ ?_
        rotate_left
        ·intro w'
         go_simp
         with_reducible rfl
        rotate_left
        ·simp only [Act.put, List.setIfInBounds_toArray, List.set_cons_zero, List.set_cons_succ, i64_w, i32_w]
         rfl
        refine take_ (i := 3) (N := some 20) (v := ?_) (a' := ?_) #[true, true, true, true, true, true, true, false, false, false] rfl rfl (take_ofW HT_.out HW_.out (by kernel_rfl)) (fun _ _ _ h => h) (Or.inl ⟨by rfl, ?_⟩) hHeld ?_ ?_
        rotate_left
        ·rintro w' ⟨s0, s1, s2, s3, s4, s5, s6, s7⟩
         go_simp
         with_reducible rfl
        rotate_left
        ·simp only [Act.put, List.setIfInBounds_toArray, List.set_cons_zero, List.set_cons_succ, i64_w, i32_w]
         rfl
        refine take_ (i := 7) (N := some 24) (v := ?_) (a' := ?_) #[true, true, true, true, true, true, true, true, false, false] rfl rfl (take_ofW HT_.out HW_.out (by kernel_rfl)) (fun _ _ _ h => h) (Or.inl ⟨by rfl, ?_⟩) hHeld ?_ ?_
        rotate_left
        ·rintro w' ⟨s0, s1, s2, s3, s4, s5, s6, s7⟩
         go_simp
         with_reducible rfl
        rotate_left
        ·simp only [Act.put, List.setIfInBounds_toArray, List.set_cons_zero, List.set_cons_succ, i64_w, i32_w]
         rfl
        refine one_ (i := 8) (N := some 25) #[true, true, true, true, true, true, true, true, true, false] rfl rfl (one_of HT_.out (by kernel_rfl)) (by decide) (fun K hK => ?_)
        refine goes_ Try.func169 (by kernel_rfl) rfl #[.agg #[.int .i64 ((rd_T141 l0 x5_1).f0), .int .i64 ((rd_T141 l0 x5_1).f1), .int .i64 ((rd_T141 l0 x5_1).f2), .int .i64 ((rd_T141 l0 x5_1).f3)], .agg #[.int .i64 ((rd_T141 l1 x5_1).f0), .int .i64 ((rd_T141 l1 x5_1).f1), .int .i64 ((rd_T141 l1 x5_1).f2), .int .i64 ((rd_T141 l1 x5_1).f3)]] (by rfl) rfl rfl (by (try simp only [List.map_toArray, List.map_cons, List.map_nil]); first | done | rfl | (simp only [List.length_drop, List.length_take]; rfl)) ?_
        with_reducible refine (laws_eqSeenFrame.calls ((rd_T141 l0 x5_1).f0) ((rd_T141 l0 x5_1).f1) ((rd_T141 l0 x5_1).f2) ((rd_T141 l0 x5_1).f3) ((rd_T141 l1 x5_1).f0) ((rd_T141 l1 x5_1).f1) ((rd_T141 l1 x5_1).f2) ((rd_T141 l1 x5_1).f3) true _ A7.1).mono ?_
        rintro e w10 ⟨rfl, hb⟩
        refine ⟨_, rfl, ?_⟩
        have n0_ := Am_ (bT_ (by repeat (first | (with_reducible first | exact HB.1 | apply bA_ | apply bN_ | apply bD_) | exact HB.1)) hb)
        clear HB
        have HB := n0_
        clear n0_
        (try clear hb)
        (try clear hb2)
        (try clear hk)
        (try clear hi)
        refine hK.out _ _ ⟨((HB.1.cell (World.block_lt_of_cell? w _ hw333_0)).trans hw333_0), ((HB.1.cell (World.block_lt_of_cell? w _ hw333_1)).trans hw333_1), ((HB.1.cell (World.block_lt_of_cell? w _ hw333_2)).trans hw333_2), ((HB.1.cell (World.block_lt_of_cell? w _ hw333_3)).trans hw333_3), ((HB.1.cell (World.block_lt_of_cell? w _ hw334_0)).trans hw334_0), ((HB.1.cell (World.block_lt_of_cell? w _ hw334_1)).trans hw334_1), ((HB.1.cell (World.block_lt_of_cell? w _ hw334_2)).trans hw334_2), ((HB.1.cell (World.block_lt_of_cell? w _ hw334_3)).trans hw334_3)⟩ (fun hHeld => ?_)
        clear hK K
        refine norm_ (a' := ?_) ?_ ?_
        rotate_left
        ·show Act.put _ (some 25) _ = _
         simp only [Act.put, List.setIfInBounds_toArray, List.set_cons_zero, List.set_cons_succ, i64_w, i32_w]
         rfl
        refine pure_ (i := 9) (N := some 26) (v := ?_) (a' := ?_) #[true, true, true, true, true, true, true, true, true, true] rfl rfl (any_of HT_.out (by kernel_rfl)) (fun _ _ _ h => h) (Or.inl ⟨by rfl, ?_⟩) ?_ ?_
        rotate_left
        ·intro w'
         go_simp
         with_reducible rfl
        rotate_left
        ·simp only [Act.put, List.setIfInBounds_toArray, List.set_cons_zero, List.set_cons_succ, i64_w, i32_w]
         rfl
        refine done_ (done_of HT_.out (by kernel_rfl)) ?_
        try go_wp2
        go_roundg k1
        case measure => have := HK1.1; omega
        case rel => exact ⟨(wrap64 (x5_1 + 1)), (by first | rfl | (simp; done) | (simp [*]; done)), H', ⟨by have := HK1.1; omega⟩, ⟨by repeat (first | (with_reducible first | exact HB.1 | apply bA_ | apply bN_ | apply bD_) | exact HB.1)⟩⟩
       ·replace c8 := Bool.eq_false_iff.mpr c8
        subst c8
        have H1 : (some false) = some r := by rw [if_neg (show ¬ (false = true) by decide)] at H; exact H
        clear H
        have H := H1
        clear H1
        obtain rfl := Option.some.inj H
        exact absurd hT (by decide)
      ·rw [if_neg c6] at H
       exact absurd H (by simp)
     ·rw [if_neg c5] at H
      exact absurd H (by simp)
    ·rw [if_neg c4] at H
     have c4b0 : decide (x5_1 < (l0.length : Int)) = false := decide_eq_false c4
     clear c4
     obtain rfl := Option.some.inj H
     go_wp2
     go_ret
     exact ⟨by first | rfl | (simp [errW_none, errW_some] <;> rfl) | (simp [*, errW_none, errW_some] <;> rfl), by repeat (first | (with_reducible first | exact HB.1 | apply bA_ | apply bN_ | apply bD_) | exact HB.1)⟩
 ·rw [if_neg c3] at H
  have c3b0 : ((l0.length : Int) == (l1.length : Int)) = false := beq_eq_false_iff_ne.mpr c3
  have c3b1 : ((l0.length : Int) != (l1.length : Int)) = true := bne_iff_ne.mpr c3
  have c3b2 : (l0.length == l1.length) = false := by first | simpa using c3 | (simp at c3 ⊢; omega)
  obtain rfl := Option.some.inj H
  exact absurd hT (by decide)

end Go.Proofs.Ytlkofdedkfmaeaa.XFnExactDeliveredOnce
