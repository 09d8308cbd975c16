/- The functions that the law reaches as plain Lean functions, and of each a proof that its call computes it. Conditions: those that each theorem names. -/
import Derived.Test.YtlkofdedkfmaeaaWS
import Derived.Test.YtlkofdedkfmaeaaXFnExactDeliveredOncex0
import Derived.Test.YtlkofdedkfmaeaaXFnExactDeliveredOncex4
namespace Go.Proofs.Ytlkofdedkfmaeaa.XFnExactDeliveredOnce
open Go.RowKit Go.Proofs.YtlkofdedkfmaeaaW.PrintWords Go.Proofs.YtlkofdedkfmaeaaW.PrintLast Go.Proofs.YtlkofdedkfmaeaaW.PrintMore Go.Proofs.Ytlkofdedkfmaeaa.X
attribute [local go_sem] max2_int min2_int max_two min_two max_three min_three max_four min_four   -- for this text's walks alone
set_option linter.unusedVariables false
set_option linter.unusedSimpArgs false

/-! ### laws_eqMessageS: function 166 -/
def laws_eqMessageS.l0 : Nat → List (S173) → List (S173) → Int → Option (Bool)
 | 0, _, _, _ => none
 | k + 1, x0, x1, x5 => if x5 < (x0.length : Int) then (if 0 ≤ x5 then (if x5 < (x1.length : Int) then ((laws_eqMessage.f k ((rd_T173 x0 x5).f0) ((rd_T173 x0 x5).f1) ((rd_T173 x0 x5).f2) ((rd_T173 x0 x5).f3) ((rd_T173 x1 x5).f0) ((rd_T173 x1 x5).f1) ((rd_T173 x1 x5).f2) ((rd_T173 x1 x5).f3)).bind fun t316 => (if t316 = true then (laws_eqMessageS.l0 k x0 x1 (wrap64 (x5 + 1))) else (some false))) else (none)) else (none)) else (some true)
def laws_eqMessageS.f (k : Nat) (l0 : List (S173)) (l1 : List (S173)) : Option (Bool) := if (l0.length : Int) = (l1.length : Int) then (laws_eqMessageS.l0 k l0 l1 0) else (some false)
theorem laws_eqMessageS.mono_l : ∀ k, (∀ y0 y1 y2, LeO (laws_eqMessageS.l0 k y0 y1 y2) (laws_eqMessageS.l0 (k + 1) y0 y1 y2))
 | 0 => fun _ _ _ r h => by simp [laws_eqMessageS.l0] at h
 | k + 1 => by
  have ih0 := laws_eqMessageS.mono_l k
  ·intro y0 y1 y2
   unfold laws_eqMessageS.l0
   repeat' first
   | (with_reducible exact ih0 _ _ _)
   | (with_reducible exact laws_eqMessage.mono _ _ _ _ _ _ _ _ _)
   | (with_reducible exact LeO.refl _)
   | (with_reducible exact LeO.none _)
   | (with_reducible refine LeO.ite ?_ ?_)
   | (with_reducible refine LeO.bind ?_ (fun _ => ?_))
   | exact ih0 _ _ _
   | exact laws_eqMessage.mono _ _ _ _ _ _ _ _ _
   | exact LeO.none _
   | refine LeO.ite ?_ ?_
   | refine LeO.bind ?_ (fun _ => ?_)
theorem laws_eqMessageS.mono : ∀ a0 a1 k, LeO (laws_eqMessageS.f k a0 a1) (laws_eqMessageS.f (k + 1) a0 a1) := by
 intro a0 a1 k
 have ih0 := laws_eqMessageS.mono_l k
 unfold laws_eqMessageS.f
 repeat' first
   | (with_reducible exact ih0 _ _ _)
   | (with_reducible exact laws_eqMessage.mono _ _ _ _ _ _ _ _ _)
   | (with_reducible exact LeO.refl _)
   | (with_reducible exact LeO.none _)
   | (with_reducible refine LeO.ite ?_ ?_)
   | (with_reducible refine LeO.bind ?_ (fun _ => ?_))
   | exact ih0 _ _ _
   | exact laws_eqMessage.mono _ _ _ _ _ _ _ _ _
   | exact LeO.none _
   | refine LeO.ite ?_ ?_
   | refine LeO.bind ?_ (fun _ => ?_)
def laws_eqMessageS.T6 : Bool × List (List Nat × List Nat) := (true, [([], []), ([], []), ([0, 1], [0, 1]), ([2], [2]), ([], []), ([], []), ([4, 5], [4, 5]), ([6], [6]), ([3, 7], [3, 7]), ([8], [8])])
def laws_eqMessageS.B6 : List Nat := [0, 0, 3, 7, 0, 0, 48, 112, 255, 511]
theorem laws_eqMessageS.tab6 : rtab .any (opsOf Try.f166 6) = laws_eqMessageS.T6 := by kernel_rfl
theorem laws_eqMessageS.bits6 : waitsOk laws_eqMessageS.T6.2 laws_eqMessageS.B6 = true := by kernel_rfl
set_option maxHeartbeats 8000000 in
set_option maxRecDepth 100000 in
theorem laws_eqMessageS.calls (k : Nat) (A0 : Option Addr) (c0 : Nat) (l0 : List (S173)) (A1 : Option Addr) (c1 : Nat) (l1 : List (S173)) (r : Bool) (w : World) (hr0 : Kd.C k173 w A0 l0.length l0) (hc0 : l0.length ≤ c0) (hr1 : Kd.C k173 w A1 l1.length l1) (hc1 : l1.length ≤ c1) (h : laws_eqMessageS.f k l0 l1 = some r) (hT : r = true := by rfl) :
  Calls Try.prog 166 #[.slice A0 l0.length c0, .slice A1 l1.length c1] w fun e w' => e = .returned (.bool r) ∧ Below w.heap.size w w' := by
 have hu173 := Try.underlying173
 have HR0 := Am_ hr0
 have HC0 := Am_ hc0
 clear hr0 hc0
 have HR1 := Am_ hr1
 have HC1 := Am_ hc1
 clear hr1 hc1
 have HB := Am_ (Below.refl w.heap.size w)
 have H : (if (l0.length : Int) = (l1.length : Int) then (laws_eqMessageS.l0 k l0 l1 0) else (some false)) = some r := h
 clear h
 by_cases c3 : (l0.length : Int) = (l1.length : Int)
 ·rw [if_pos c3] at H
  have c3b0 : ((l0.length : Int) == (l1.length : Int)) = true := beq_iff_eq.mpr c3
  have c3b1 : ((l0.length : Int) != (l1.length : Int)) = false := bne_eq_false_iff_eq.mpr c3
  have c3b2 : (l0.length == l1.length) = true := by first | simpa using c3 | (simp at c3 ⊢; omega)
  clear c3
  have H' := Am_ H
  clear H
  go_enter Try.func166, Try.ntmps166
  go_wp2
  go_loopg [5] k (fun kq v5 w' => ∃ (x5_1 : Int), v5 = .int .i64 x5_1 ∧ Aside0 (laws_eqMessageS.l0 kq l0 l1 x5_1 = some r) ∧ Aside0 (kq ≤ k) ∧ Aside0 (Below w.heap.size w w'))
  case atStart => exact ⟨(0), (by first | rfl | (simp; done) | (simp [*]; done)), H', ⟨Nat.le_refl _⟩, ⟨by repeat (first | (with_reducible first | exact HB.1 | apply bA_ | apply bN_ | apply bD_) | exact HB.1)⟩⟩
  case round =>
   clear H'
   try clear c1
   try clear p2
   try clear c3
   try clear c3b0
   try clear c3b1
   try clear c3b2
   obtain ⟨x5_1, rfl, HA, HK1, HB⟩ := hrel
   cases gk with
   | zero => exact absurd HA.1 (by simp [laws_eqMessageS.l0])
   | succ k1 =>
    have H := HA.1
    clear HA
    simp only [laws_eqMessageS.l0] at H
    by_cases c4 : x5_1 < (l0.length : Int)
    ·rw [if_pos c4] at H
     have c4b0 : decide (x5_1 < (l0.length : Int)) = true := decide_eq_true c4
     clear c4
     by_cases c5 : 0 ≤ x5_1
     ·rw [if_pos c5] at H
      have c5b0 : decide (0 ≤ x5_1) = true := decide_eq_true c5
      clear c5
      by_cases c6 : x5_1 < (l1.length : Int)
      ·rw [if_pos c6] at H
       have c6b0 : decide (x5_1 < (l1.length : Int)) = true := decide_eq_true c6
       clear c6
       replace H := Option.bind_eq_some_iff.mp H
       obtain ⟨t316, A70, H⟩ := H
       replace H : (if t316 = true then (laws_eqMessageS.l0 k1 l0 l1 (wrap64 (x5_1 + 1))) else (some false)) = some r := H
       have A7 := Am_ A70
       clear A70
       by_cases c8 : t316 = true
       ·subst c8
        have H1 : (laws_eqMessageS.l0 k1 l0 l1 (wrap64 (x5_1 + 1))) = some r := by rw [if_pos rfl] at H; exact H
        clear H
        have H := H1
        clear H1
        have H' := Am_ H
        clear H
        try go_wp2
        have n0_ := Am_ (bD_ HB.1)
        clear HB
        have HB := n0_
        clear n0_
        have p314 : 0 ≤ (x5_1 : Int) := of_decide_eq_true (by first | (with_reducible assumption) | assumption)
        have q314 : x5_1 < (l0.length : Int) := of_decide_eq_true (by first | (with_reducible assumption) | assumption)
        obtain ⟨ad314, A314_3, c314_3, e314, hx314_0, hx314_1, hx314_2, hx314_3, hl314_3, hi314_3⟩ := at_T173 HR0.1 x5_1 p314 q314
        have hw314_3 := hx314_3
        have hw314_2 := hx314_2
        have hw314_1 := hx314_1
        have hw314_0 := hx314_0
        cases e314
        replace hx314_0 := (HB.1.cell (World.block_lt_of_cell? w _ hx314_0)).trans hx314_0
        replace hx314_1 := (HB.1.cell (World.block_lt_of_cell? w _ hx314_1)).trans hx314_1
        replace hx314_2 := (HB.1.cell (World.block_lt_of_cell? w _ hx314_2)).trans hx314_2
        replace hx314_3 := (HB.1.cell (World.block_lt_of_cell? w _ hx314_3)).trans hx314_3
        have HR314_3 := Am_ hi314_3
        have HC314_3 := Am_ hl314_3
        clear hi314_3 hl314_3
        replace p314 := eq_true p314
        replace q314 := eq_true q314
        have p315 : 0 ≤ (x5_1 : Int) := of_decide_eq_true (by first | (with_reducible assumption) | assumption)
        have q315 : x5_1 < (l1.length : Int) := of_decide_eq_true (by first | (with_reducible assumption) | assumption)
        obtain ⟨ad315, A315_3, c315_3, e315, hx315_0, hx315_1, hx315_2, hx315_3, hl315_3, hi315_3⟩ := at_T173 HR1.1 x5_1 p315 q315
        have hw315_3 := hx315_3
        have hw315_2 := hx315_2
        have hw315_1 := hx315_1
        have hw315_0 := hx315_0
        cases e315
        replace hx315_0 := (HB.1.cell (World.block_lt_of_cell? w _ hx315_0)).trans hx315_0
        replace hx315_1 := (HB.1.cell (World.block_lt_of_cell? w _ hx315_1)).trans hx315_1
        replace hx315_2 := (HB.1.cell (World.block_lt_of_cell? w _ hx315_2)).trans hx315_2
        replace hx315_3 := (HB.1.cell (World.block_lt_of_cell? w _ hx315_3)).trans hx315_3
        have HR315_3 := Am_ hi315_3
        have HC315_3 := Am_ hl315_3
        clear hi315_3 hl315_3
        replace p315 := eq_true p315
        replace q315 := eq_true q315
        refine start_ (n := 10) (S := fun w' => w'.cell? (ad314.add ((x5_1).toNat * 4)) = some (.int .i64 ((rd_T173 l0 x5_1).f0)) ∧ w'.cell? ⟨(ad314.add ((x5_1).toNat * 4)).block, (ad314.add ((x5_1).toNat * 4)).off + 1, none⟩ = some (.int .i64 ((rd_T173 l0 x5_1).f1)) ∧ w'.cell? ⟨(ad314.add ((x5_1).toNat * 4)).block, (ad314.add ((x5_1).toNat * 4)).off + 2, none⟩ = some (.int .i64 ((rd_T173 l0 x5_1).f2)) ∧ w'.cell? ⟨(ad314.add ((x5_1).toNat * 4)).block, (ad314.add ((x5_1).toNat * 4)).off + 3, none⟩ = some (.slice A314_3 ((rd_T173 l0 x5_1).f3).length c314_3) ∧ w'.cell? (ad315.add ((x5_1).toNat * 4)) = some (.int .i64 ((rd_T173 l1 x5_1).f0)) ∧ w'.cell? ⟨(ad315.add ((x5_1).toNat * 4)).block, (ad315.add ((x5_1).toNat * 4)).off + 1, none⟩ = some (.int .i64 ((rd_T173 l1 x5_1).f1)) ∧ w'.cell? ⟨(ad315.add ((x5_1).toNat * 4)).block, (ad315.add ((x5_1).toNat * 4)).off + 2, none⟩ = some (.int .i64 ((rd_T173 l1 x5_1).f2)) ∧ w'.cell? ⟨(ad315.add ((x5_1).toNat * 4)).block, (ad315.add ((x5_1).toNat * 4)).off + 3, none⟩ = some (.slice A315_3 ((rd_T173 l1 x5_1).f3).length c315_3)) (ds := []) #[false, false, false, false, false, false, false, false, false, false] (by kernel_rfl) rfl rfl ⟨((HB.1.cell (World.block_lt_of_cell? w _ hw314_0)).trans hw314_0), ((HB.1.cell (World.block_lt_of_cell? w _ hw314_1)).trans hw314_1), ((HB.1.cell (World.block_lt_of_cell? w _ hw314_2)).trans hw314_2), ((HB.1.cell (World.block_lt_of_cell? w _ hw314_3)).trans hw314_3), ((HB.1.cell (World.block_lt_of_cell? w _ hw315_0)).trans hw315_0), ((HB.1.cell (World.block_lt_of_cell? w _ hw315_1)).trans hw315_1), ((HB.1.cell (World.block_lt_of_cell? w _ hw315_2)).trans hw315_2), ((HB.1.cell (World.block_lt_of_cell? w _ hw315_3)).trans hw315_3)⟩ (fun hHeld => ?_); refine with_tabW laws_eqMessageS.tab6 laws_eqMessageS.bits6 (fun HT_ HW_ => ?_)
        generalize wr.drew = w9 at HB HR314_3 HR315_3 hx314_0 hx314_1 hx314_2 hx314_3 hx315_0 hx315_1 hx315_2 hx315_3 hHeld ⊢
        refine pure_ (i := 0) (N := some 17) (v := ?_) (a' := ?_) #[true, false, false, false, false, false, false, false, false, false] rfl rfl (any_of HT_.out (by kernel_rfl)) (fun _ _ _ h => h) (Or.inl ⟨by rfl, ?_⟩) ?_ ?_
        rotate_left
        ·intro w'
         go_simp
         with_reducible rfl
        rotate_left
        ·simp only [Act.put, List.setIfInBounds_toArray, List.set_cons_zero, List.set_cons_succ, i64_w, i32_w]
         rfl
        refine pure_ (i := 1) (N := some 18) (v := ?_) (a' := ?_) #[true, true, false, false, false, false, false, false, false, false] rfl rfl (any_of HT_.out (by kernel_rfl)) (fun _ _ _ h => h) (Or.inl ⟨by rfl, ?_⟩) ?_ ?_
        rotate_left
        ·intro w'
         go_simp
         with_reducible rfl
        rotate_left
        ·simp only [Act.put, List.setIfInBounds_toArray, List.set_cons_zero, List.set_cons_succ, i64_w, i32_w]
         rfl
        refine pure_ (i := 2) (N := some 19) (v := ?_) (a' := ?_) #[true, true, true, false, false, false, false, false, false, false] rfl rfl (any_of HT_.out (by kernel_rfl)) (fun _ _ _ h => h) (Or.inl ⟨by rfl, ?_⟩) ?_ ?_
        rotate_left
        ·intro w'
         go_simp
         with_reducible rfl
        rotate_left
        ·simp only [Act.put, List.setIfInBounds_toArray, List.set_cons_zero, List.set_cons_succ, i64_w, i32_w]
         rfl
        refine pure_ (i := 4) (N := some 21) (v := ?_) (a' := ?_) #[true, true, true, false, true, false, false, false, false, false] rfl rfl (any_of HT_.out (by kernel_rfl)) (fun _ _ _ h => h) (Or.inl ⟨by rfl, ?_⟩) ?_ ?_
        rotate_left
        ·intro w'
         go_simp
         with_reducible rfl
        rotate_left
        ·simp only [Act.put, List.setIfInBounds_toArray, List.set_cons_zero, List.set_cons_succ, i64_w, i32_w]
         rfl
        refine pure_ (i := 5) (N := some 22) (v := ?_) (a' := ?_) #[true, true, true, false, true, true, false, false, false, false] rfl rfl (any_of HT_.out (by kernel_rfl)) (fun _ _ _ h => h) (Or.inl ⟨by rfl, ?_⟩) ?_ ?_
        rotate_left
        ·intro w'
         go_simp
         with_reducible rfl
        rotate_left
        ·simp only [Act.put, List.setIfInBounds_toArray, List.set_cons_zero, List.set_cons_succ, i64_w, i32_w]
         rfl
        refine pure_ (i := 6) (N := some 23) (v := ?_) (a' := ?_) #[true, true, true, false, true, true, true, false, false, false] rfl rfl (any_of HT_.out (by kernel_rfl)) (fun _ _ _ h => h) (Or.inl ⟨by rfl, ?_⟩) ?_ ?_
        rotate_left
        ·intro w'
         go_simp
         with_reducible rfl
        rotate_left
        ·simp only [Act.put, List.setIfInBounds_toArray, List.set_cons_zero, List.set_cons_succ, i64_w, i32_w]
         rfl
        refine take_ (i := 3) (N := some 20) (v := ?_) (a' := ?_) #[true, true, true, true, true, true, true, false, false, false] rfl rfl (take_ofW HT_.out HW_.out (by kernel_rfl)) (fun _ _ _ h => h) (Or.inl ⟨by rfl, ?_⟩) hHeld ?_ ?_
        rotate_left
        ·rintro w' ⟨s0, s1, s2, s3, s4, s5, s6, s7⟩
         go_simp
         with_reducible rfl
        rotate_left
        ·simp only [Act.put, List.setIfInBounds_toArray, List.set_cons_zero, List.set_cons_succ, i64_w, i32_w]
         rfl
        refine take_ (i := 7) (N := some 24) (v := ?_) (a' := ?_) #[true, true, true, true, true, true, true, true, false, false] rfl rfl (take_ofW HT_.out HW_.out (by kernel_rfl)) (fun _ _ _ h => h) (Or.inl ⟨by rfl, ?_⟩) hHeld ?_ ?_
        rotate_left
        ·rintro w' ⟨s0, s1, s2, s3, s4, s5, s6, s7⟩
         go_simp
         with_reducible rfl
        rotate_left
        ·simp only [Act.put, List.setIfInBounds_toArray, List.set_cons_zero, List.set_cons_succ, i64_w, i32_w]
         rfl
        refine one_ (i := 8) (N := some 25) #[true, true, true, true, true, true, true, true, true, false] rfl rfl (one_of HT_.out (by kernel_rfl)) (by decide) (fun K hK => ?_)
        refine goes_ Try.func187 (by kernel_rfl) rfl #[.agg #[.int .i64 ((rd_T173 l0 x5_1).f0), .int .i64 ((rd_T173 l0 x5_1).f1), .int .i64 ((rd_T173 l0 x5_1).f2), .slice A314_3 ((rd_T173 l0 x5_1).f3).length c314_3], .agg #[.int .i64 ((rd_T173 l1 x5_1).f0), .int .i64 ((rd_T173 l1 x5_1).f1), .int .i64 ((rd_T173 l1 x5_1).f2), .slice A315_3 ((rd_T173 l1 x5_1).f3).length c315_3]] (by rfl) rfl rfl (by (try simp only [List.map_toArray, List.map_cons, List.map_nil]); first | done | rfl | (simp only [List.length_drop, List.length_take]; rfl)) ?_
        with_reducible refine (laws_eqMessage.calls k1 ((rd_T173 l0 x5_1).f0) ((rd_T173 l0 x5_1).f1) ((rd_T173 l0 x5_1).f2) _ _ ((rd_T173 l0 x5_1).f3) ((rd_T173 l1 x5_1).f0) ((rd_T173 l1 x5_1).f1) ((rd_T173 l1 x5_1).f2) _ _ ((rd_T173 l1 x5_1).f3) true _ ?side1 ?side2 ?side3 ?side4 A7.1).mono ?_
        (case side1 => repeat (first | exact (Kd.C_below HR314_3.1 HB.1) | (with_reducible refine Kd.C_alloc ?_ _) | (with_reducible refine Kd.C_drewN ?_ _) | (with_reducible refine Kd.C_drew ?_)))
        (case side2 => exact HC314_3.1)
        (case side3 => repeat (first | exact (Kd.C_below HR315_3.1 HB.1) | (with_reducible refine Kd.C_alloc ?_ _) | (with_reducible refine Kd.C_drewN ?_ _) | (with_reducible refine Kd.C_drew ?_)))
        (case side4 => exact HC315_3.1)
        rintro e w10 ⟨rfl, hb⟩
        refine ⟨_, rfl, ?_⟩
        have n0_ := Am_ (bT_ (by repeat (first | (with_reducible first | exact HB.1 | apply bA_ | apply bN_ | apply bD_) | exact HB.1)) hb)
        clear HB
        have HB := n0_
        clear n0_
        (try clear hb)
        (try clear hb2)
        (try clear hk)
        (try clear hi)
        refine hK.out _ _ ⟨((HB.1.cell (World.block_lt_of_cell? w _ hw314_0)).trans hw314_0), ((HB.1.cell (World.block_lt_of_cell? w _ hw314_1)).trans hw314_1), ((HB.1.cell (World.block_lt_of_cell? w _ hw314_2)).trans hw314_2), ((HB.1.cell (World.block_lt_of_cell? w _ hw314_3)).trans hw314_3), ((HB.1.cell (World.block_lt_of_cell? w _ hw315_0)).trans hw315_0), ((HB.1.cell (World.block_lt_of_cell? w _ hw315_1)).trans hw315_1), ((HB.1.cell (World.block_lt_of_cell? w _ hw315_2)).trans hw315_2), ((HB.1.cell (World.block_lt_of_cell? w _ hw315_3)).trans hw315_3)⟩ (fun hHeld => ?_)
        clear hK K
        refine norm_ (a' := ?_) ?_ ?_
        rotate_left
        ·show Act.put _ (some 25) _ = _
         simp only [Act.put, List.setIfInBounds_toArray, List.set_cons_zero, List.set_cons_succ, i64_w, i32_w]
         rfl
        refine pure_ (i := 9) (N := some 26) (v := ?_) (a' := ?_) #[true, true, true, true, true, true, true, true, true, true] rfl rfl (any_of HT_.out (by kernel_rfl)) (fun _ _ _ h => h) (Or.inl ⟨by rfl, ?_⟩) ?_ ?_
        rotate_left
        ·intro w'
         go_simp
         with_reducible rfl
        rotate_left
        ·simp only [Act.put, List.setIfInBounds_toArray, List.set_cons_zero, List.set_cons_succ, i64_w, i32_w]
         rfl
        refine done_ (done_of HT_.out (by kernel_rfl)) ?_
        try go_wp2
        go_roundg k1
        case measure => have := HK1.1; omega
        case rel => exact ⟨(wrap64 (x5_1 + 1)), (by first | rfl | (simp; done) | (simp [*]; done)), H', ⟨by have := HK1.1; omega⟩, ⟨by repeat (first | (with_reducible first | exact HB.1 | apply bA_ | apply bN_ | apply bD_) | exact HB.1)⟩⟩
       ·replace c8 := Bool.eq_false_iff.mpr c8
        subst c8
        have H1 : (some false) = some r := by rw [if_neg (show ¬ (false = true) by decide)] at H; exact H
        clear H
        have H := H1
        clear H1
        obtain rfl := Option.some.inj H
        exact absurd hT (by decide)
      ·rw [if_neg c6] at H
       exact absurd H (by simp)
     ·rw [if_neg c5] at H
      exact absurd H (by simp)
    ·rw [if_neg c4] at H
     have c4b0 : decide (x5_1 < (l0.length : Int)) = false := decide_eq_false c4
     clear c4
     obtain rfl := Option.some.inj H
     go_wp2
     go_ret
     exact ⟨by first | rfl | (simp [errW_none, errW_some] <;> rfl) | (simp [*, errW_none, errW_some] <;> rfl), by repeat (first | (with_reducible first | exact HB.1 | apply bA_ | apply bN_ | apply bD_) | exact HB.1)⟩
 ·rw [if_neg c3] at H
  have c3b0 : ((l0.length : Int) == (l1.length : Int)) = false := beq_eq_false_iff_ne.mpr c3
  have c3b1 : ((l0.length : Int) != (l1.length : Int)) = true := bne_iff_ne.mpr c3
  have c3b2 : (l0.length == l1.length) = false := by first | simpa using c3 | (simp at c3 ⊢; omega)
  obtain rfl := Option.some.inj H
  exact absurd hT (by decide)

/-! ### laws_eqTransmitQueue: function 142 -/
def laws_eqTransmitQueue.f (k : Nat) (l0_0 : List (S173)) (a0_1 : Int) (l1_0 : List (S173)) (a1_1 : Int) : Option (Bool) := (laws_eqMessageS.f k l0_0 l1_0).bind fun t319 => (if t319 = true then (if a0_1 = a1_1 then (some true) else (some false)) else (some false))
theorem laws_eqTransmitQueue.mono : ∀ a0 a1 a2 a3 k, LeO (laws_eqTransmitQueue.f k a0 a1 a2 a3) (laws_eqTransmitQueue.f (k + 1) a0 a1 a2 a3) := by
 intro a0 a1 a2 a3 k
 unfold laws_eqTransmitQueue.f
 repeat' first
   | (with_reducible exact laws_eqMessageS.mono _ _ _)
   | (with_reducible exact LeO.refl _)
   | (with_reducible exact LeO.none _)
   | (with_reducible refine LeO.ite ?_ ?_)
   | (with_reducible refine LeO.bind ?_ (fun _ => ?_))
   | exact laws_eqMessageS.mono _ _ _
   | exact LeO.none _
   | refine LeO.ite ?_ ?_
   | refine LeO.bind ?_ (fun _ => ?_)
set_option maxHeartbeats 8000000 in
set_option maxRecDepth 100000 in
theorem laws_eqTransmitQueue.calls (k : Nat) (A0_0 : Option Addr) (c0_0 : Nat) (l0_0 : List (S173)) (a0_1 : Int) (A1_0 : Option Addr) (c1_0 : Nat) (l1_0 : List (S173)) (a1_1 : Int) (r : Bool) (w : World) (hr0_0 : Kd.C k173 w A0_0 l0_0.length l0_0) (hc0_0 : l0_0.length ≤ c0_0) (hr1_0 : Kd.C k173 w A1_0 l1_0.length l1_0) (hc1_0 : l1_0.length ≤ c1_0) (h : laws_eqTransmitQueue.f k l0_0 a0_1 l1_0 a1_1 = some r) (hT : r = true := by rfl) :
  Calls Try.prog 142 #[.agg #[.slice A0_0 l0_0.length c0_0, .int .i64 a0_1], .agg #[.slice A1_0 l1_0.length c1_0, .int .i64 a1_1]] w fun e w' => e = .returned (.bool r) ∧ Below w.heap.size w w' := by
 have hu85 := Try.underlying85
 have HR0_0 := Am_ hr0_0
 have HC0_0 := Am_ hc0_0
 clear hr0_0 hc0_0
 have HR1_0 := Am_ hr1_0
 have HC1_0 := Am_ hc1_0
 clear hr1_0 hc1_0
 have HB := Am_ (Below.refl w.heap.size w)
 have H : ((laws_eqMessageS.f k l0_0 l1_0).bind fun t319 => (if t319 = true then (if a0_1 = a1_1 then (some true) else (some false)) else (some false))) = some r := h
 clear h
 replace H := Option.bind_eq_some_iff.mp H
 obtain ⟨t319, A30, H⟩ := H
 replace H : (if t319 = true then (if a0_1 = a1_1 then (some true) else (some false)) else (some false)) = some r := H
 have A3 := Am_ A30
 clear A30
 by_cases c4 : t319 = true
 ·subst c4
  have H1 : (if a0_1 = a1_1 then (some true) else (some false)) = some r := by rw [if_pos rfl] at H; exact H
  clear H
  have H := H1
  clear H1
  by_cases c5 : a0_1 = a1_1
  ·rw [if_pos c5] at H
   have c5b0 : (a0_1 == a1_1) = true := beq_iff_eq.mpr c5
   have c5b1 : (a0_1 != a1_1) = false := bne_eq_false_iff_eq.mpr c5
   clear c5
   obtain rfl := Option.some.inj H
   go_enter Try.func142, Try.ntmps142
   go_wp2_with (first | ((with_reducible refine gate_dst (N := 2) rfl ?_); refine box_event ?hg (N := 2) ?hd (cs := #[.slice A0_0 l0_0.length c0_0, .int .i64 a0_1]) (t := 85) ?hr ?_; (case hd => rfl); (case hg => rfl); (case hr => first | (go_simp; done) | (go_simp; rfl)); intro gb317 hg w6 hbox hb; have n0_ := Am_ (bT_ (by repeat (first | (with_reducible first | exact HB.1 | apply bA_ | apply bN_ | apply bD_) | exact HB.1)) hb); have n1_ := Am_ (hbox); have n2_ := Am_ ((by rw [hg]; exact (bZ_ (by repeat (first | (with_reducible first | exact HB.1 | apply bA_ | apply bN_ | apply bD_) | exact HB.1))) : w.heap.size ≤ gb317)); have n3_ := Am_ ((by rw [hg]; exact (bZ_ (by repeat (first | (with_reducible first | exact HB.1 | apply bA_ | apply bN_ | apply bD_) | exact HB.1))) : w.heap.size ≤ gb317)); clear HB; have HB := n0_; have BK317 := n1_; have GW317 := n2_; have GE317 := n3_; clear n0_ n1_ n2_ n3_ hb hbox hg) | ((with_reducible refine gate_dst (N := 3) rfl ?_); refine box_event ?hg (N := 3) ?hd (cs := #[.slice A1_0 l1_0.length c1_0, .int .i64 a1_1]) (t := 85) ?hr ?_; (case hd => rfl); (case hg => rfl); (case hr => first | (go_simp; done) | (go_simp; rfl)); intro gb318 hg w7 hbox hb; have n0_ := Am_ (kB_ (g := gb317) (by (with_reducible repeat (first | refine kN_ ?_ _ | refine kD_ ?_ | refine kA_ ?_ _)); exact BK317.1) hb); have n1_ := Am_ (bT_ (by repeat (first | (with_reducible first | exact HB.1 | apply bA_ | apply bN_ | apply bD_ | refine bS_ ?_ GE317.1) | exact HB.1)) hb); have n2_ := Am_ (hbox); have n3_ := Am_ ((by rw [hg]; exact (bZ_ (by repeat (first | (with_reducible first | exact HB.1 | apply bA_ | apply bN_ | apply bD_ | refine bS_ ?_ GE317.1) | exact HB.1))) : w.heap.size ≤ gb318)); have n4_ := Am_ ((by rw [hg]; exact (bZ_ (by repeat (first | (with_reducible first | exact HB.1 | apply bA_ | apply bN_ | apply bD_ | refine bS_ ?_ GE317.1) | exact HB.1))) : w.heap.size ≤ gb318)); have n5_ := Am_ ((by rw [hg]; exact Nat.ne_of_lt (blk_lt (g := gb317) (by (with_reducible repeat (first | refine kN_ ?_ _ | refine kD_ ?_ | refine kA_ ?_ _)); exact BK317.1)) : gb317 ≠ gb318)); have n6_ := Am_ ((by rw [hg]; exact Nat.ne_of_gt (blk_lt (g := gb317) (by (with_reducible repeat (first | refine kN_ ?_ _ | refine kD_ ?_ | refine kA_ ?_ _)); exact BK317.1)) : gb318 ≠ gb317)); clear BK317 HB; have BK317 := n0_; have HB := n1_; have BK318 := n2_; have GW318 := n3_; have GE318 := n4_; have NB317_318 := n5_; have NB318_317 := n6_; clear n0_ n1_ n2_ n3_ n4_ n5_ n6_ hb hbox hg; have hnb8 := NB317_318.1; have hnc8 := NB318_317.1; have hcz9_0 : w7.cell? ⟨gb317, 0, none⟩ = some (.slice A0_0 l0_0.length c0_0) := kC_ BK317.1 0; have hcz9_1 : w7.cell? ⟨gb317, 1, none⟩ = some (.int .i64 a0_1) := kC_ BK317.1 1; have hfz9_0 := kF_ BK317.1 0; have hfz9_1 := kF_ BK317.1 1; have hcz10_0 : w7.cell? ⟨gb318, 0, none⟩ = some (.slice A1_0 l1_0.length c1_0) := kC_ BK318.1 0; have hcz10_1 : w7.cell? ⟨gb318, 1, none⟩ = some (.int .i64 a1_1) := kC_ BK318.1 1; have hfz10_0 := kF_ BK318.1 0; have hfz10_1 := kF_ BK318.1 1) | ((with_reducible refine gate_callee (f := 166) rfl ?_); refine goesL_ (some 9) rfl rfl Try.func166 (by kernel_rfl) rfl #[.slice A0_0 l0_0.length c0_0, .slice A1_0 l1_0.length c1_0] rfl (by (try simp only [List.map_toArray, List.map_cons, List.map_nil]); first | done | rfl | (simp only [List.length_drop, List.length_take]; rfl)) ?_; (with_reducible refine (laws_eqMessageS.calls k _ _ l0_0 _ _ l1_0 true _ ?side1 ?side2 ?side3 ?side4 A3.1).mono ?_); (case side1 => repeat (first | exact (Kd.C_below HR0_0.1 HB.1) | (with_reducible refine Kd.C_alloc ?_ _) | (with_reducible refine Kd.C_drewN ?_ _) | (with_reducible refine Kd.C_drew ?_))); (case side2 => exact HC0_0.1); (case side3 => repeat (first | exact (Kd.C_below HR1_0.1 HB.1) | (with_reducible refine Kd.C_alloc ?_ _) | (with_reducible refine Kd.C_drewN ?_ _) | (with_reducible refine Kd.C_drew ?_))); (case side4 => exact HC1_0.1); rintro e w11 ⟨rfl, hb⟩; refine ⟨_, rfl, ?_⟩; have n0_ := Am_ (kB_ (g := gb317) (by (with_reducible repeat (first | refine kN_ ?_ _ | refine kD_ ?_ | refine kA_ ?_ _)); exact BK317.1) hb); have n1_ := Am_ (kB_ (g := gb318) (by (with_reducible repeat (first | refine kN_ ?_ _ | refine kD_ ?_ | refine kA_ ?_ _)); exact BK318.1) hb); have n2_ := Am_ (bT_ (by repeat (first | (with_reducible first | exact HB.1 | apply bA_ | apply bN_ | apply bD_ | refine bS_ ?_ GE317.1 | refine bS_ ?_ GE318.1) | exact HB.1)) hb); clear BK317 BK318 HB; have BK317 := n0_; have BK318 := n1_; have HB := n2_; clear n0_ n1_ n2_; (try clear hb); (try clear hb2); (try clear hk); (try clear hi); have hcz12_0 : w11.cell? ⟨gb317, 0, none⟩ = some (.slice A0_0 l0_0.length c0_0) := kC_ BK317.1 0; have hcz12_1 : w11.cell? ⟨gb317, 1, none⟩ = some (.int .i64 a0_1) := kC_ BK317.1 1; have hfz12_0 := kF_ BK317.1 0; have hfz12_1 := kF_ BK317.1 1; have hcz13_0 : w11.cell? ⟨gb318, 0, none⟩ = some (.slice A1_0 l1_0.length c1_0) := kC_ BK318.1 0; have hcz13_1 : w11.cell? ⟨gb318, 1, none⟩ = some (.int .i64 a1_1) := kC_ BK318.1 1; have hfz13_0 := kF_ BK318.1 0; have hfz13_1 := kF_ BK318.1 1))
   go_ret
   exact ⟨by first | rfl | (simp [errW_none, errW_some] <;> rfl) | (simp [*, errW_none, errW_some] <;> rfl), by repeat (first | (with_reducible first | exact HB.1 | apply bA_ | apply bN_ | apply bD_ | refine bS_ ?_ GE317.1 | refine bS_ ?_ GE318.1) | exact HB.1)⟩
  ·rw [if_neg c5] at H
   have c5b0 : (a0_1 == a1_1) = false := beq_eq_false_iff_ne.mpr c5
   have c5b1 : (a0_1 != a1_1) = true := bne_iff_ne.mpr c5
   obtain rfl := Option.some.inj H
   exact absurd hT (by decide)
 ·replace c4 := Bool.eq_false_iff.mpr c4
  subst c4
  have H1 : (some false) = some r := by rw [if_neg (show ¬ (false = true) by decide)] at H; exact H
  clear H
  have H := H1
  clear H1
  obtain rfl := Option.some.inj H
  exact absurd hT (by decide)

/-! ### laws_eqAirFrame: function 143 -/
def laws_eqAirFrame.f (k : Nat) (a0_0 : Int) (a0_1 : Int) (a0_2 : Int) (l0_3 : List Int) (a0_4 : Bool) (a1_0 : Int) (a1_1 : Int) (a1_2 : Int) (l1_3 : List Int) (a1_4 : Bool) : Option (Bool) := if a0_0 = a1_0 then (if a0_1 = a1_1 then (if a0_2 = a1_2 then ((laws_eqByteS.f k l0_3 l1_3).bind fun t322 => (if t322 = true then (if (a0_4 != a1_4) = true then (some false) else (some true)) else (some false))) else (some false)) else (some false)) else (some false)
theorem laws_eqAirFrame.mono : ∀ a0 a1 a2 a3 a4 a5 a6 a7 a8 a9 k, LeO (laws_eqAirFrame.f k a0 a1 a2 a3 a4 a5 a6 a7 a8 a9) (laws_eqAirFrame.f (k + 1) a0 a1 a2 a3 a4 a5 a6 a7 a8 a9) := by
 intro a0 a1 a2 a3 a4 a5 a6 a7 a8 a9 k
 unfold laws_eqAirFrame.f
 repeat' first
   | (with_reducible exact laws_eqByteS.mono _ _ _)
   | (with_reducible exact LeO.refl _)
   | (with_reducible exact LeO.none _)
   | (with_reducible refine LeO.ite ?_ ?_)
   | (with_reducible refine LeO.bind ?_ (fun _ => ?_))
   | exact laws_eqByteS.mono _ _ _
   | exact LeO.none _
   | refine LeO.ite ?_ ?_
   | refine LeO.bind ?_ (fun _ => ?_)
set_option maxHeartbeats 8000000 in
set_option maxRecDepth 100000 in
theorem laws_eqAirFrame.calls (k : Nat) (a0_0 : Int) (a0_1 : Int) (a0_2 : Int) (A0_3 : Option Addr) (c0_3 : Nat) (l0_3 : List Int) (a0_4 : Bool) (a1_0 : Int) (a1_1 : Int) (a1_2 : Int) (A1_3 : Option Addr) (c1_3 : Nat) (l1_3 : List Int) (a1_4 : Bool) (r : Bool) (w : World) (hr0_3 : Kd.C (Kd.int .u8) w A0_3 l0_3.length l0_3) (hc0_3 : l0_3.length ≤ c0_3) (hr1_3 : Kd.C (Kd.int .u8) w A1_3 l1_3.length l1_3) (hc1_3 : l1_3.length ≤ c1_3) (h : laws_eqAirFrame.f k a0_0 a0_1 a0_2 l0_3 a0_4 a1_0 a1_1 a1_2 l1_3 a1_4 = some r) (hT : r = true := by rfl) :
  Calls Try.prog 143 #[.agg #[.int .i64 a0_0, .int .i64 a0_1, .int .i64 a0_2, .slice A0_3 l0_3.length c0_3, .bool a0_4], .agg #[.int .i64 a1_0, .int .i64 a1_1, .int .i64 a1_2, .slice A1_3 l1_3.length c1_3, .bool a1_4]] w fun e w' => e = .returned (.bool r) ∧ Below w.heap.size w w' := by
 have hu88 := Try.underlying88
 have HR0_3 := Am_ hr0_3
 have HC0_3 := Am_ hc0_3
 clear hr0_3 hc0_3
 have HR1_3 := Am_ hr1_3
 have HC1_3 := Am_ hc1_3
 clear hr1_3 hc1_3
 have HB := Am_ (Below.refl w.heap.size w)
 have H : (if a0_0 = a1_0 then (if a0_1 = a1_1 then (if a0_2 = a1_2 then ((laws_eqByteS.f k l0_3 l1_3).bind fun t322 => (if t322 = true then (if (a0_4 != a1_4) = true then (some false) else (some true)) else (some false))) else (some false)) else (some false)) else (some false)) = some r := h
 clear h
 by_cases c3 : a0_0 = a1_0
 ·rw [if_pos c3] at H
  have c3b0 : (a0_0 == a1_0) = true := beq_iff_eq.mpr c3
  have c3b1 : (a0_0 != a1_0) = false := bne_eq_false_iff_eq.mpr c3
  clear c3
  by_cases c4 : a0_1 = a1_1
  ·rw [if_pos c4] at H
   have c4b0 : (a0_1 == a1_1) = true := beq_iff_eq.mpr c4
   have c4b1 : (a0_1 != a1_1) = false := bne_eq_false_iff_eq.mpr c4
   clear c4
   by_cases c5 : a0_2 = a1_2
   ·rw [if_pos c5] at H
    have c5b0 : (a0_2 == a1_2) = true := beq_iff_eq.mpr c5
    have c5b1 : (a0_2 != a1_2) = false := bne_eq_false_iff_eq.mpr c5
    clear c5
    replace H := Option.bind_eq_some_iff.mp H
    obtain ⟨t322, A60, H⟩ := H
    replace H : (if t322 = true then (if (a0_4 != a1_4) = true then (some false) else (some true)) else (some false)) = some r := H
    have A6 := Am_ A60
    clear A60
    by_cases c7 : t322 = true
    ·subst c7
     have H1 : (if (a0_4 != a1_4) = true then (some false) else (some true)) = some r := by rw [if_pos rfl] at H; exact H
     clear H
     have H := H1
     clear H1
     by_cases c8 : (a0_4 != a1_4) = true
     ·rw [if_pos c8] at H
      have c8b0 : (a0_4 != a1_4) = true := c8
      (try (have c8b1 : decide (a0_4 = a1_4) = false := by simpa using c8))
      (try (have c8b2 : (a0_4 == a1_4) = false := by simpa using c8))
      (try (have c8b3 : ¬ (a0_4 = a1_4) := by simpa using c8))
      clear c8
      obtain rfl := Option.some.inj H
      exact absurd hT (by decide)
     ·rw [if_neg c8] at H
      have c8b0 : (a0_4 != a1_4) = false := by simpa using c8
      (try (have c8b1 : decide (a0_4 = a1_4) = true := by simpa using c8))
      (try (have c8b2 : (a0_4 == a1_4) = true := by simpa using c8))
      clear c8
      obtain rfl := Option.some.inj H
      go_enter Try.func143, Try.ntmps143
      go_wp2_with (first | ((with_reducible refine gate_dst (N := 2) rfl ?_); refine box_event ?hg (N := 2) ?hd (cs := #[.int .i64 a0_0, .int .i64 a0_1, .int .i64 a0_2, .slice A0_3 l0_3.length c0_3, .bool a0_4]) (t := 88) ?hr ?_; (case hd => rfl); (case hg => rfl); (case hr => first | (go_simp; done) | (go_simp; rfl)); intro gb320 hg w14 hbox hb; have n0_ := Am_ (bT_ (by repeat (first | (with_reducible first | exact HB.1 | apply bA_ | apply bN_ | apply bD_) | exact HB.1)) hb); have n1_ := Am_ (hbox); have n2_ := Am_ ((by rw [hg]; exact (bZ_ (by repeat (first | (with_reducible first | exact HB.1 | apply bA_ | apply bN_ | apply bD_) | exact HB.1))) : w.heap.size ≤ gb320)); have n3_ := Am_ ((by rw [hg]; exact (bZ_ (by repeat (first | (with_reducible first | exact HB.1 | apply bA_ | apply bN_ | apply bD_) | exact HB.1))) : w.heap.size ≤ gb320)); clear HB; have HB := n0_; have BK320 := n1_; have GW320 := n2_; have GE320 := n3_; clear n0_ n1_ n2_ n3_ hb hbox hg) | ((with_reducible refine gate_dst (N := 3) rfl ?_); refine box_event ?hg (N := 3) ?hd (cs := #[.int .i64 a1_0, .int .i64 a1_1, .int .i64 a1_2, .slice A1_3 l1_3.length c1_3, .bool a1_4]) (t := 88) ?hr ?_; (case hd => rfl); (case hg => rfl); (case hr => first | (go_simp; done) | (go_simp; rfl)); intro gb321 hg w15 hbox hb; have n0_ := Am_ (kB_ (g := gb320) (by (with_reducible repeat (first | refine kN_ ?_ _ | refine kD_ ?_ | refine kA_ ?_ _)); exact BK320.1) hb); have n1_ := Am_ (bT_ (by repeat (first | (with_reducible first | exact HB.1 | apply bA_ | apply bN_ | apply bD_ | refine bS_ ?_ GE320.1) | exact HB.1)) hb); have n2_ := Am_ (hbox); have n3_ := Am_ ((by rw [hg]; exact (bZ_ (by repeat (first | (with_reducible first | exact HB.1 | apply bA_ | apply bN_ | apply bD_ | refine bS_ ?_ GE320.1) | exact HB.1))) : w.heap.size ≤ gb321)); have n4_ := Am_ ((by rw [hg]; exact (bZ_ (by repeat (first | (with_reducible first | exact HB.1 | apply bA_ | apply bN_ | apply bD_ | refine bS_ ?_ GE320.1) | exact HB.1))) : w.heap.size ≤ gb321)); have n5_ := Am_ ((by rw [hg]; exact Nat.ne_of_lt (blk_lt (g := gb320) (by (with_reducible repeat (first | refine kN_ ?_ _ | refine kD_ ?_ | refine kA_ ?_ _)); exact BK320.1)) : gb320 ≠ gb321)); have n6_ := Am_ ((by rw [hg]; exact Nat.ne_of_gt (blk_lt (g := gb320) (by (with_reducible repeat (first | refine kN_ ?_ _ | refine kD_ ?_ | refine kA_ ?_ _)); exact BK320.1)) : gb321 ≠ gb320)); clear BK320 HB; have BK320 := n0_; have HB := n1_; have BK321 := n2_; have GW321 := n3_; have GE321 := n4_; have NB320_321 := n5_; have NB321_320 := n6_; clear n0_ n1_ n2_ n3_ n4_ n5_ n6_ hb hbox hg; have hnb16 := NB320_321.1; have hnc16 := NB321_320.1; have hcz17_0 : w15.cell? ⟨gb320, 0, none⟩ = some (.int .i64 a0_0) := kC_ BK320.1 0; have hcz17_1 : w15.cell? ⟨gb320, 1, none⟩ = some (.int .i64 a0_1) := kC_ BK320.1 1; have hcz17_2 : w15.cell? ⟨gb320, 2, none⟩ = some (.int .i64 a0_2) := kC_ BK320.1 2; have hcz17_3 : w15.cell? ⟨gb320, 3, none⟩ = some (.slice A0_3 l0_3.length c0_3) := kC_ BK320.1 3; have hcz17_4 : w15.cell? ⟨gb320, 4, none⟩ = some (.bool a0_4) := kC_ BK320.1 4; have hfz17_0 := kF_ BK320.1 0; have hfz17_1 := kF_ BK320.1 1; have hfz17_2 := kF_ BK320.1 2; have hfz17_3 := kF_ BK320.1 3; have hfz17_4 := kF_ BK320.1 4; have hcz18_0 : w15.cell? ⟨gb321, 0, none⟩ = some (.int .i64 a1_0) := kC_ BK321.1 0; have hcz18_1 : w15.cell? ⟨gb321, 1, none⟩ = some (.int .i64 a1_1) := kC_ BK321.1 1; have hcz18_2 : w15.cell? ⟨gb321, 2, none⟩ = some (.int .i64 a1_2) := kC_ BK321.1 2; have hcz18_3 : w15.cell? ⟨gb321, 3, none⟩ = some (.slice A1_3 l1_3.length c1_3) := kC_ BK321.1 3; have hcz18_4 : w15.cell? ⟨gb321, 4, none⟩ = some (.bool a1_4) := kC_ BK321.1 4; have hfz18_0 := kF_ BK321.1 0; have hfz18_1 := kF_ BK321.1 1; have hfz18_2 := kF_ BK321.1 2; have hfz18_3 := kF_ BK321.1 3; have hfz18_4 := kF_ BK321.1 4) | ((with_reducible refine gate_callee (f := 167) rfl ?_); refine goesL_ (some 24) rfl rfl Try.func167 (by kernel_rfl) rfl #[.slice A0_3 l0_3.length c0_3, .slice A1_3 l1_3.length c1_3] rfl (by (try simp only [List.map_toArray, List.map_cons, List.map_nil]); first | done | rfl | (simp only [List.length_drop, List.length_take]; rfl)) ?_; (with_reducible refine (laws_eqByteS.calls k _ _ l0_3 _ _ l1_3 true _ ?side1 ?side2 ?side3 ?side4 A6.1).mono ?_); (case side1 => repeat (first | exact (Kd.C_below HR0_3.1 HB.1) | (with_reducible refine Kd.C_alloc ?_ _) | (with_reducible refine Kd.C_drewN ?_ _) | (with_reducible refine Kd.C_drew ?_))); (case side2 => exact HC0_3.1); (case side3 => repeat (first | exact (Kd.C_below HR1_3.1 HB.1) | (with_reducible refine Kd.C_alloc ?_ _) | (with_reducible refine Kd.C_drewN ?_ _) | (with_reducible refine Kd.C_drew ?_))); (case side4 => exact HC1_3.1); rintro e w' ⟨rfl, ⟨nd, rfl⟩⟩; refine ⟨_, rfl, ?_⟩))
      go_ret
      exact ⟨by first | rfl | (simp [errW_none, errW_some] <;> rfl) | (simp [*, errW_none, errW_some] <;> rfl), by repeat (first | (with_reducible first | exact HB.1 | apply bA_ | apply bN_ | apply bD_ | refine bS_ ?_ GE320.1 | refine bS_ ?_ GE321.1) | exact HB.1)⟩
    ·replace c7 := Bool.eq_false_iff.mpr c7
     subst c7
     have H1 : (some false) = some r := by rw [if_neg (show ¬ (false = true) by decide)] at H; exact H
     clear H
     have H := H1
     clear H1
     obtain rfl := Option.some.inj H
     exact absurd hT (by decide)
   ·rw [if_neg c5] at H
    have c5b0 : (a0_2 == a1_2) = false := beq_eq_false_iff_ne.mpr c5
    have c5b1 : (a0_2 != a1_2) = true := bne_iff_ne.mpr c5
    obtain rfl := Option.some.inj H
    exact absurd hT (by decide)
  ·rw [if_neg c4] at H
   have c4b0 : (a0_1 == a1_1) = false := beq_eq_false_iff_ne.mpr c4
   have c4b1 : (a0_1 != a1_1) = true := bne_iff_ne.mpr c4
   obtain rfl := Option.some.inj H
   exact absurd hT (by decide)
 ·rw [if_neg c3] at H
  have c3b0 : (a0_0 == a1_0) = false := beq_eq_false_iff_ne.mpr c3
  have c3b1 : (a0_0 != a1_0) = true := bne_iff_ne.mpr c3
  obtain rfl := Option.some.inj H
  exact absurd hT (by decide)

/-! ### laws_eqAccessParams: function 168 -/
def laws_eqAccessParams.f (a0_0 : Int) (a0_1 : Int) (a0_2 : Int) (a0_3 : Int) (a1_0 : Int) (a1_1 : Int) (a1_2 : Int) (a1_3 : Int) : Option (Bool) := if a0_0 = a1_0 then (if a0_1 = a1_1 then (if a0_2 = a1_2 then (if a0_3 = a1_3 then (some true) else (some false)) else (some false)) else (some false)) else (some false)
set_option maxHeartbeats 8000000 in
set_option maxRecDepth 100000 in
theorem laws_eqAccessParams.calls (a0_0 : Int) (a0_1 : Int) (a0_2 : Int) (a0_3 : Int) (a1_0 : Int) (a1_1 : Int) (a1_2 : Int) (a1_3 : Int) (r : Bool) (w : World) (h : laws_eqAccessParams.f a0_0 a0_1 a0_2 a0_3 a1_0 a1_1 a1_2 a1_3 = some r) (hT : r = true := by rfl) :
  Calls Try.prog 168 #[.agg #[.int .i64 a0_0, .int .i64 a0_1, .int .i64 a0_2, .int .i64 a0_3], .agg #[.int .i64 a1_0, .int .i64 a1_1, .int .i64 a1_2, .int .i64 a1_3]] w fun e w' => e = .returned (.bool r) ∧ Below w.heap.size w w' := by
 have hu90 := Try.underlying90
 have HB := Am_ (Below.refl w.heap.size w)
 have H : (if a0_0 = a1_0 then (if a0_1 = a1_1 then (if a0_2 = a1_2 then (if a0_3 = a1_3 then (some true) else (some false)) else (some false)) else (some false)) else (some false)) = some r := h
 clear h
 by_cases c3 : a0_0 = a1_0
 ·rw [if_pos c3] at H
  have c3b0 : (a0_0 == a1_0) = true := beq_iff_eq.mpr c3
  have c3b1 : (a0_0 != a1_0) = false := bne_eq_false_iff_eq.mpr c3
  clear c3
  by_cases c4 : a0_1 = a1_1
  ·rw [if_pos c4] at H
   have c4b0 : (a0_1 == a1_1) = true := beq_iff_eq.mpr c4
   have c4b1 : (a0_1 != a1_1) = false := bne_eq_false_iff_eq.mpr c4
   clear c4
   by_cases c5 : a0_2 = a1_2
   ·rw [if_pos c5] at H
    have c5b0 : (a0_2 == a1_2) = true := beq_iff_eq.mpr c5
    have c5b1 : (a0_2 != a1_2) = false := bne_eq_false_iff_eq.mpr c5
    clear c5
    by_cases c6 : a0_3 = a1_3
    ·rw [if_pos c6] at H
     have c6b0 : (a0_3 == a1_3) = true := beq_iff_eq.mpr c6
     have c6b1 : (a0_3 != a1_3) = false := bne_eq_false_iff_eq.mpr c6
     clear c6
     obtain rfl := Option.some.inj H
     go_enter Try.func168, Try.ntmps168
     go_wp2_with (first | ((with_reducible refine gate_dst (N := 2) rfl ?_); refine box_event ?hg (N := 2) ?hd (cs := #[.int .i64 a0_0, .int .i64 a0_1, .int .i64 a0_2, .int .i64 a0_3]) (t := 90) ?hr ?_; (case hd => rfl); (case hg => rfl); (case hr => first | (go_simp; done) | (go_simp; rfl)); intro gb323 hg w7 hbox hb; have n0_ := Am_ (bT_ (by repeat (first | (with_reducible first | exact HB.1 | apply bA_ | apply bN_ | apply bD_) | exact HB.1)) hb); have n1_ := Am_ (hbox); have n2_ := Am_ ((by rw [hg]; exact (bZ_ (by repeat (first | (with_reducible first | exact HB.1 | apply bA_ | apply bN_ | apply bD_) | exact HB.1))) : w.heap.size ≤ gb323)); have n3_ := Am_ ((by rw [hg]; exact (bZ_ (by repeat (first | (with_reducible first | exact HB.1 | apply bA_ | apply bN_ | apply bD_) | exact HB.1))) : w.heap.size ≤ gb323)); clear HB; have HB := n0_; have BK323 := n1_; have GW323 := n2_; have GE323 := n3_; clear n0_ n1_ n2_ n3_ hb hbox hg) | ((with_reducible refine gate_dst (N := 3) rfl ?_); refine box_event ?hg (N := 3) ?hd (cs := #[.int .i64 a1_0, .int .i64 a1_1, .int .i64 a1_2, .int .i64 a1_3]) (t := 90) ?hr ?_; (case hd => rfl); (case hg => rfl); (case hr => first | (go_simp; done) | (go_simp; rfl)); intro gb324 hg w8 hbox hb; have n0_ := Am_ (kB_ (g := gb323) (by (with_reducible repeat (first | refine kN_ ?_ _ | refine kD_ ?_ | refine kA_ ?_ _)); exact BK323.1) hb); have n1_ := Am_ (bT_ (by repeat (first | (with_reducible first | exact HB.1 | apply bA_ | apply bN_ | apply bD_ | refine bS_ ?_ GE323.1) | exact HB.1)) hb); have n2_ := Am_ (hbox); have n3_ := Am_ ((by rw [hg]; exact (bZ_ (by repeat (first | (with_reducible first | exact HB.1 | apply bA_ | apply bN_ | apply bD_ | refine bS_ ?_ GE323.1) | exact HB.1))) : w.heap.size ≤ gb324)); have n4_ := Am_ ((by rw [hg]; exact (bZ_ (by repeat (first | (with_reducible first | exact HB.1 | apply bA_ | apply bN_ | apply bD_ | refine bS_ ?_ GE323.1) | exact HB.1))) : w.heap.size ≤ gb324)); have n5_ := Am_ ((by rw [hg]; exact Nat.ne_of_lt (blk_lt (g := gb323) (by (with_reducible repeat (first | refine kN_ ?_ _ | refine kD_ ?_ | refine kA_ ?_ _)); exact BK323.1)) : gb323 ≠ gb324)); have n6_ := Am_ ((by rw [hg]; exact Nat.ne_of_gt (blk_lt (g := gb323) (by (with_reducible repeat (first | refine kN_ ?_ _ | refine kD_ ?_ | refine kA_ ?_ _)); exact BK323.1)) : gb324 ≠ gb323)); clear BK323 HB; have BK323 := n0_; have HB := n1_; have BK324 := n2_; have GW324 := n3_; have GE324 := n4_; have NB323_324 := n5_; have NB324_323 := n6_; clear n0_ n1_ n2_ n3_ n4_ n5_ n6_ hb hbox hg; have hnb9 := NB323_324.1; have hnc9 := NB324_323.1; have hcz10_0 : w8.cell? ⟨gb323, 0, none⟩ = some (.int .i64 a0_0) := kC_ BK323.1 0; have hcz10_1 : w8.cell? ⟨gb323, 1, none⟩ = some (.int .i64 a0_1) := kC_ BK323.1 1; have hcz10_2 : w8.cell? ⟨gb323, 2, none⟩ = some (.int .i64 a0_2) := kC_ BK323.1 2; have hcz10_3 : w8.cell? ⟨gb323, 3, none⟩ = some (.int .i64 a0_3) := kC_ BK323.1 3; have hfz10_0 := kF_ BK323.1 0; have hfz10_1 := kF_ BK323.1 1; have hfz10_2 := kF_ BK323.1 2; have hfz10_3 := kF_ BK323.1 3; have hcz11_0 : w8.cell? ⟨gb324, 0, none⟩ = some (.int .i64 a1_0) := kC_ BK324.1 0; have hcz11_1 : w8.cell? ⟨gb324, 1, none⟩ = some (.int .i64 a1_1) := kC_ BK324.1 1; have hcz11_2 : w8.cell? ⟨gb324, 2, none⟩ = some (.int .i64 a1_2) := kC_ BK324.1 2; have hcz11_3 : w8.cell? ⟨gb324, 3, none⟩ = some (.int .i64 a1_3) := kC_ BK324.1 3; have hfz11_0 := kF_ BK324.1 0; have hfz11_1 := kF_ BK324.1 1; have hfz11_2 := kF_ BK324.1 2; have hfz11_3 := kF_ BK324.1 3))
     go_ret
     exact ⟨by first | rfl | (simp [errW_none, errW_some] <;> rfl) | (simp [*, errW_none, errW_some] <;> rfl), by repeat (first | (with_reducible first | exact HB.1 | apply bA_ | apply bN_ | apply bD_ | refine bS_ ?_ GE323.1 | refine bS_ ?_ GE324.1) | exact HB.1)⟩
    ·rw [if_neg c6] at H
     have c6b0 : (a0_3 == a1_3) = false := beq_eq_false_iff_ne.mpr c6
     have c6b1 : (a0_3 != a1_3) = true := bne_iff_ne.mpr c6
     obtain rfl := Option.some.inj H
     exact absurd hT (by decide)
   ·rw [if_neg c5] at H
    have c5b0 : (a0_2 == a1_2) = false := beq_eq_false_iff_ne.mpr c5
    have c5b1 : (a0_2 != a1_2) = true := bne_iff_ne.mpr c5
    obtain rfl := Option.some.inj H
    exact absurd hT (by decide)
  ·rw [if_neg c4] at H
   have c4b0 : (a0_1 == a1_1) = false := beq_eq_false_iff_ne.mpr c4
   have c4b1 : (a0_1 != a1_1) = true := bne_iff_ne.mpr c4
   obtain rfl := Option.some.inj H
   exact absurd hT (by decide)
 ·rw [if_neg c3] at H
  have c3b0 : (a0_0 == a1_0) = false := beq_eq_false_iff_ne.mpr c3
  have c3b1 : (a0_0 != a1_0) = true := bne_iff_ne.mpr c3
  obtain rfl := Option.some.inj H
  exact absurd hT (by decide)

/-! ### laws_eqBackoff: function 144 -/
def laws_eqBackoff.f (a0_0 : Int) (a0_1 : Int) (a0_2 : Int) (a0_3 : Int) (a0_4 : Int) (a0_5 : Int) (a0_6 : Int) (a0_7 : Int) (a0_8 : Int) (a1_0 : Int) (a1_1 : Int) (a1_2 : Int) (a1_3 : Int) (a1_4 : Int) (a1_5 : Int) (a1_6 : Int) (a1_7 : Int) (a1_8 : Int) : Option (Bool) := (laws_eqAccessParams.f a0_0 a0_1 a0_2 a0_3 a1_0 a1_1 a1_2 a1_3).bind fun t327 => (if t327 = true then (if a0_4 = a1_4 then (if a0_5 = a1_5 then (if a0_6 = a1_6 then (if a0_7 = a1_7 then (if a0_8 = a1_8 then (some true) else (some false)) else (some false)) else (some false)) else (some false)) else (some false)) else (some false))
set_option maxHeartbeats 8000000 in
set_option maxRecDepth 100000 in
theorem laws_eqBackoff.calls (a0_0 : Int) (a0_1 : Int) (a0_2 : Int) (a0_3 : Int) (a0_4 : Int) (a0_5 : Int) (a0_6 : Int) (a0_7 : Int) (a0_8 : Int) (a1_0 : Int) (a1_1 : Int) (a1_2 : Int) (a1_3 : Int) (a1_4 : Int) (a1_5 : Int) (a1_6 : Int) (a1_7 : Int) (a1_8 : Int) (r : Bool) (w : World) (h : laws_eqBackoff.f a0_0 a0_1 a0_2 a0_3 a0_4 a0_5 a0_6 a0_7 a0_8 a1_0 a1_1 a1_2 a1_3 a1_4 a1_5 a1_6 a1_7 a1_8 = some r) (hT : r = true := by rfl) :
  Calls Try.prog 144 #[.agg #[.int .i64 a0_0, .int .i64 a0_1, .int .i64 a0_2, .int .i64 a0_3, .int .i64 a0_4, .int .i64 a0_5, .int .i64 a0_6, .int .i64 a0_7, .int .i64 a0_8], .agg #[.int .i64 a1_0, .int .i64 a1_1, .int .i64 a1_2, .int .i64 a1_3, .int .i64 a1_4, .int .i64 a1_5, .int .i64 a1_6, .int .i64 a1_7, .int .i64 a1_8]] w fun e w' => e = .returned (.bool r) ∧ Below w.heap.size w w' := by
 have hu92 := Try.underlying92
 have hu90 := Try.underlying90
 have HB := Am_ (Below.refl w.heap.size w)
 have H : ((laws_eqAccessParams.f a0_0 a0_1 a0_2 a0_3 a1_0 a1_1 a1_2 a1_3).bind fun t327 => (if t327 = true then (if a0_4 = a1_4 then (if a0_5 = a1_5 then (if a0_6 = a1_6 then (if a0_7 = a1_7 then (if a0_8 = a1_8 then (some true) else (some false)) else (some false)) else (some false)) else (some false)) else (some false)) else (some false))) = some r := h
 clear h
 replace H := Option.bind_eq_some_iff.mp H
 obtain ⟨t327, A30, H⟩ := H
 replace H : (if t327 = true then (if a0_4 = a1_4 then (if a0_5 = a1_5 then (if a0_6 = a1_6 then (if a0_7 = a1_7 then (if a0_8 = a1_8 then (some true) else (some false)) else (some false)) else (some false)) else (some false)) else (some false)) else (some false)) = some r := H
 have A3 := Am_ A30
 clear A30
 by_cases c4 : t327 = true
 ·subst c4
  have H1 : (if a0_4 = a1_4 then (if a0_5 = a1_5 then (if a0_6 = a1_6 then (if a0_7 = a1_7 then (if a0_8 = a1_8 then (some true) else (some false)) else (some false)) else (some false)) else (some false)) else (some false)) = some r := by rw [if_pos rfl] at H; exact H
  clear H
  have H := H1
  clear H1
  by_cases c5 : a0_4 = a1_4
  ·rw [if_pos c5] at H
   have c5b0 : (a0_4 == a1_4) = true := beq_iff_eq.mpr c5
   have c5b1 : (a0_4 != a1_4) = false := bne_eq_false_iff_eq.mpr c5
   clear c5
   by_cases c6 : a0_5 = a1_5
   ·rw [if_pos c6] at H
    have c6b0 : (a0_5 == a1_5) = true := beq_iff_eq.mpr c6
    have c6b1 : (a0_5 != a1_5) = false := bne_eq_false_iff_eq.mpr c6
    clear c6
    by_cases c7 : a0_6 = a1_6
    ·rw [if_pos c7] at H
     have c7b0 : (a0_6 == a1_6) = true := beq_iff_eq.mpr c7
     have c7b1 : (a0_6 != a1_6) = false := bne_eq_false_iff_eq.mpr c7
     clear c7
     by_cases c8 : a0_7 = a1_7
     ·rw [if_pos c8] at H
      have c8b0 : (a0_7 == a1_7) = true := beq_iff_eq.mpr c8
      have c8b1 : (a0_7 != a1_7) = false := bne_eq_false_iff_eq.mpr c8
      clear c8
      by_cases c9 : a0_8 = a1_8
      ·rw [if_pos c9] at H
       have c9b0 : (a0_8 == a1_8) = true := beq_iff_eq.mpr c9
       have c9b1 : (a0_8 != a1_8) = false := bne_eq_false_iff_eq.mpr c9
       clear c9
       obtain rfl := Option.some.inj H
       go_enter Try.func144, Try.ntmps144
       go_wp2_with (first | ((with_reducible refine gate_dst (N := 2) rfl ?_); refine box_event ?hg (N := 2) ?hd (cs := #[.int .i64 a0_0, .int .i64 a0_1, .int .i64 a0_2, .int .i64 a0_3, .int .i64 a0_4, .int .i64 a0_5, .int .i64 a0_6, .int .i64 a0_7, .int .i64 a0_8]) (t := 92) ?hr ?_; (case hd => rfl); (case hg => rfl); (case hr => first | (go_simp; done) | (go_simp; rfl)); intro gb325 hg w10 hbox hb; have n0_ := Am_ (bT_ (by repeat (first | (with_reducible first | exact HB.1 | apply bA_ | apply bN_ | apply bD_) | exact HB.1)) hb); have n1_ := Am_ (hbox); have n2_ := Am_ ((by rw [hg]; exact (bZ_ (by repeat (first | (with_reducible first | exact HB.1 | apply bA_ | apply bN_ | apply bD_) | exact HB.1))) : w.heap.size ≤ gb325)); have n3_ := Am_ ((by rw [hg]; exact (bZ_ (by repeat (first | (with_reducible first | exact HB.1 | apply bA_ | apply bN_ | apply bD_) | exact HB.1))) : w.heap.size ≤ gb325)); clear HB; have HB := n0_; have BK325 := n1_; have GW325 := n2_; have GE325 := n3_; clear n0_ n1_ n2_ n3_ hb hbox hg) | ((with_reducible refine gate_dst (N := 3) rfl ?_); refine box_event ?hg (N := 3) ?hd (cs := #[.int .i64 a1_0, .int .i64 a1_1, .int .i64 a1_2, .int .i64 a1_3, .int .i64 a1_4, .int .i64 a1_5, .int .i64 a1_6, .int .i64 a1_7, .int .i64 a1_8]) (t := 92) ?hr ?_; (case hd => rfl); (case hg => rfl); (case hr => first | (go_simp; done) | (go_simp; rfl)); intro gb326 hg w11 hbox hb; have n0_ := Am_ (kB_ (g := gb325) (by (with_reducible repeat (first | refine kN_ ?_ _ | refine kD_ ?_ | refine kA_ ?_ _)); exact BK325.1) hb); have n1_ := Am_ (bT_ (by repeat (first | (with_reducible first | exact HB.1 | apply bA_ | apply bN_ | apply bD_ | refine bS_ ?_ GE325.1) | exact HB.1)) hb); have n2_ := Am_ (hbox); have n3_ := Am_ ((by rw [hg]; exact (bZ_ (by repeat (first | (with_reducible first | exact HB.1 | apply bA_ | apply bN_ | apply bD_ | refine bS_ ?_ GE325.1) | exact HB.1))) : w.heap.size ≤ gb326)); have n4_ := Am_ ((by rw [hg]; exact (bZ_ (by repeat (first | (with_reducible first | exact HB.1 | apply bA_ | apply bN_ | apply bD_ | refine bS_ ?_ GE325.1) | exact HB.1))) : w.heap.size ≤ gb326)); have n5_ := Am_ ((by rw [hg]; exact Nat.ne_of_lt (blk_lt (g := gb325) (by (with_reducible repeat (first | refine kN_ ?_ _ | refine kD_ ?_ | refine kA_ ?_ _)); exact BK325.1)) : gb325 ≠ gb326)); have n6_ := Am_ ((by rw [hg]; exact Nat.ne_of_gt (blk_lt (g := gb325) (by (with_reducible repeat (first | refine kN_ ?_ _ | refine kD_ ?_ | refine kA_ ?_ _)); exact BK325.1)) : gb326 ≠ gb325)); clear BK325 HB; have BK325 := n0_; have HB := n1_; have BK326 := n2_; have GW326 := n3_; have GE326 := n4_; have NB325_326 := n5_; have NB326_325 := n6_; clear n0_ n1_ n2_ n3_ n4_ n5_ n6_ hb hbox hg; have hnb12 := NB325_326.1; have hnc12 := NB326_325.1; have hcz13_0 : w11.cell? ⟨gb325, 0, none⟩ = some (.int .i64 a0_0) := kC_ BK325.1 0; have hcz13_1 : w11.cell? ⟨gb325, 1, none⟩ = some (.int .i64 a0_1) := kC_ BK325.1 1; have hcz13_2 : w11.cell? ⟨gb325, 2, none⟩ = some (.int .i64 a0_2) := kC_ BK325.1 2; have hcz13_3 : w11.cell? ⟨gb325, 3, none⟩ = some (.int .i64 a0_3) := kC_ BK325.1 3; have hcz13_4 : w11.cell? ⟨gb325, 4, none⟩ = some (.int .i64 a0_4) := kC_ BK325.1 4; have hcz13_5 : w11.cell? ⟨gb325, 5, none⟩ = some (.int .i64 a0_5) := kC_ BK325.1 5; have hcz13_6 : w11.cell? ⟨gb325, 6, none⟩ = some (.int .i64 a0_6) := kC_ BK325.1 6; have hcz13_7 : w11.cell? ⟨gb325, 7, none⟩ = some (.int .i64 a0_7) := kC_ BK325.1 7; have hcz13_8 : w11.cell? ⟨gb325, 8, none⟩ = some (.int .i64 a0_8) := kC_ BK325.1 8; have hfz13_0 := kF_ BK325.1 0; have hfz13_1 := kF_ BK325.1 1; have hfz13_2 := kF_ BK325.1 2; have hfz13_3 := kF_ BK325.1 3; have hfz13_4 := kF_ BK325.1 4; have hfz13_5 := kF_ BK325.1 5; have hfz13_6 := kF_ BK325.1 6; have hfz13_7 := kF_ BK325.1 7; have hfz13_8 := kF_ BK325.1 8; have hcz14_0 : w11.cell? ⟨gb326, 0, none⟩ = some (.int .i64 a1_0) := kC_ BK326.1 0; have hcz14_1 : w11.cell? ⟨gb326, 1, none⟩ = some (.int .i64 a1_1) := kC_ BK326.1 1; have hcz14_2 : w11.cell? ⟨gb326, 2, none⟩ = some (.int .i64 a1_2) := kC_ BK326.1 2; have hcz14_3 : w11.cell? ⟨gb326, 3, none⟩ = some (.int .i64 a1_3) := kC_ BK326.1 3; have hcz14_4 : w11.cell? ⟨gb326, 4, none⟩ = some (.int .i64 a1_4) := kC_ BK326.1 4; have hcz14_5 : w11.cell? ⟨gb326, 5, none⟩ = some (.int .i64 a1_5) := kC_ BK326.1 5; have hcz14_6 : w11.cell? ⟨gb326, 6, none⟩ = some (.int .i64 a1_6) := kC_ BK326.1 6; have hcz14_7 : w11.cell? ⟨gb326, 7, none⟩ = some (.int .i64 a1_7) := kC_ BK326.1 7; have hcz14_8 : w11.cell? ⟨gb326, 8, none⟩ = some (.int .i64 a1_8) := kC_ BK326.1 8; have hfz14_0 := kF_ BK326.1 0; have hfz14_1 := kF_ BK326.1 1; have hfz14_2 := kF_ BK326.1 2; have hfz14_3 := kF_ BK326.1 3; have hfz14_4 := kF_ BK326.1 4; have hfz14_5 := kF_ BK326.1 5; have hfz14_6 := kF_ BK326.1 6; have hfz14_7 := kF_ BK326.1 7; have hfz14_8 := kF_ BK326.1 8) | ((with_reducible refine gate_callee (f := 168) rfl ?_); refine goesL_ (some 9) rfl rfl Try.func168 (by kernel_rfl) rfl #[.agg #[.int .i64 a0_0, .int .i64 a0_1, .int .i64 a0_2, .int .i64 a0_3], .agg #[.int .i64 a1_0, .int .i64 a1_1, .int .i64 a1_2, .int .i64 a1_3]] rfl (by (try simp only [List.map_toArray, List.map_cons, List.map_nil]); first | done | rfl | (simp only [List.length_drop, List.length_take]; rfl)) ?_; (with_reducible refine (laws_eqAccessParams.calls a0_0 a0_1 a0_2 a0_3 a1_0 a1_1 a1_2 a1_3 true _ A3.1).mono ?_); rintro e w15 ⟨rfl, hb⟩; refine ⟨_, rfl, ?_⟩; have n0_ := Am_ (kB_ (g := gb325) (by (with_reducible repeat (first | refine kN_ ?_ _ | refine kD_ ?_ | refine kA_ ?_ _)); exact BK325.1) hb); have n1_ := Am_ (kB_ (g := gb326) (by (with_reducible repeat (first | refine kN_ ?_ _ | refine kD_ ?_ | refine kA_ ?_ _)); exact BK326.1) hb); have n2_ := Am_ (bT_ (by repeat (first | (with_reducible first | exact HB.1 | apply bA_ | apply bN_ | apply bD_ | refine bS_ ?_ GE325.1 | refine bS_ ?_ GE326.1) | exact HB.1)) hb); clear BK325 BK326 HB; have BK325 := n0_; have BK326 := n1_; have HB := n2_; clear n0_ n1_ n2_; (try clear hb); (try clear hb2); (try clear hk); (try clear hi); have hcz16_4 : w15.cell? ⟨gb325, 4, none⟩ = some (.int .i64 a0_4) := kC_ BK325.1 4; have hcz16_5 : w15.cell? ⟨gb325, 5, none⟩ = some (.int .i64 a0_5) := kC_ BK325.1 5; have hcz16_6 : w15.cell? ⟨gb325, 6, none⟩ = some (.int .i64 a0_6) := kC_ BK325.1 6; have hcz16_7 : w15.cell? ⟨gb325, 7, none⟩ = some (.int .i64 a0_7) := kC_ BK325.1 7; have hcz16_8 : w15.cell? ⟨gb325, 8, none⟩ = some (.int .i64 a0_8) := kC_ BK325.1 8; have hfz16_4 := kF_ BK325.1 4; have hfz16_5 := kF_ BK325.1 5; have hfz16_6 := kF_ BK325.1 6; have hfz16_7 := kF_ BK325.1 7; have hfz16_8 := kF_ BK325.1 8; have hcz17_4 : w15.cell? ⟨gb326, 4, none⟩ = some (.int .i64 a1_4) := kC_ BK326.1 4; have hcz17_5 : w15.cell? ⟨gb326, 5, none⟩ = some (.int .i64 a1_5) := kC_ BK326.1 5; have hcz17_6 : w15.cell? ⟨gb326, 6, none⟩ = some (.int .i64 a1_6) := kC_ BK326.1 6; have hcz17_7 : w15.cell? ⟨gb326, 7, none⟩ = some (.int .i64 a1_7) := kC_ BK326.1 7; have hcz17_8 : w15.cell? ⟨gb326, 8, none⟩ = some (.int .i64 a1_8) := kC_ BK326.1 8; have hfz17_4 := kF_ BK326.1 4; have hfz17_5 := kF_ BK326.1 5; have hfz17_6 := kF_ BK326.1 6; have hfz17_7 := kF_ BK326.1 7; have hfz17_8 := kF_ BK326.1 8))
       go_ret
       exact ⟨by first | rfl | (simp [errW_none, errW_some] <;> rfl) | (simp [*, errW_none, errW_some] <;> rfl), by repeat (first | (with_reducible first | exact HB.1 | apply bA_ | apply bN_ | apply bD_ | refine bS_ ?_ GE325.1 | refine bS_ ?_ GE326.1) | exact HB.1)⟩
      ·rw [if_neg c9] at H
       have c9b0 : (a0_8 == a1_8) = false := beq_eq_false_iff_ne.mpr c9
       have c9b1 : (a0_8 != a1_8) = true := bne_iff_ne.mpr c9
       obtain rfl := Option.some.inj H
       exact absurd hT (by decide)
     ·rw [if_neg c8] at H
      have c8b0 : (a0_7 == a1_7) = false := beq_eq_false_iff_ne.mpr c8
      have c8b1 : (a0_7 != a1_7) = true := bne_iff_ne.mpr c8
      obtain rfl := Option.some.inj H
      exact absurd hT (by decide)
    ·rw [if_neg c7] at H
     have c7b0 : (a0_6 == a1_6) = false := beq_eq_false_iff_ne.mpr c7
     have c7b1 : (a0_6 != a1_6) = true := bne_iff_ne.mpr c7
     obtain rfl := Option.some.inj H
     exact absurd hT (by decide)
   ·rw [if_neg c6] at H
    have c6b0 : (a0_5 == a1_5) = false := beq_eq_false_iff_ne.mpr c6
    have c6b1 : (a0_5 != a1_5) = true := bne_iff_ne.mpr c6
    obtain rfl := Option.some.inj H
    exact absurd hT (by decide)
  ·rw [if_neg c5] at H
   have c5b0 : (a0_4 == a1_4) = false := beq_eq_false_iff_ne.mpr c5
   have c5b1 : (a0_4 != a1_4) = true := bne_iff_ne.mpr c5
   obtain rfl := Option.some.inj H
   exact absurd hT (by decide)
 ·replace c4 := Bool.eq_false_iff.mpr c4
  subst c4
  have H1 : (some false) = some r := by rw [if_neg (show ¬ (false = true) by decide)] at H; exact H
  clear H
  have H := H1
  clear H1
  obtain rfl := Option.some.inj H
  exact absurd hT (by decide)

end Go.Proofs.Ytlkofdedkfmaeaa.XFnExactDeliveredOnce
