/- The functions that the law reaches as plain Lean functions, and of each a proof that its call computes it. Conditions: those that each theorem names. -/
import Derived.Test.YtlkofdedkfmaeaaWS
import Derived.Test.YtlkofdedkfmaeaaXFnExactDeliveredOncex0
import Derived.Test.YtlkofdedkfmaeaaXFnExactDeliveredOncex4
import Derived.Test.YtlkofdedkfmaeaaXFnExactDeliveredOncex5
import Derived.Test.YtlkofdedkfmaeaaXFnExactDeliveredOncex6
namespace Go.Proofs.Ytlkofdedkfmaeaa.XFnExactDeliveredOnce
open Go.RowKit Go.Proofs.YtlkofdedkfmaeaaW.PrintWords Go.Proofs.YtlkofdedkfmaeaaW.PrintLast Go.Proofs.YtlkofdedkfmaeaaW.PrintMore Go.Proofs.Ytlkofdedkfmaeaa.X
attribute [local go_sem] max2_int min2_int max_two min_two max_three min_three max_four min_four   -- for this text's walks alone
set_option linter.unusedVariables false
set_option linter.unusedSimpArgs false

/-! ### laws_eqDelivery: function 170 -/
def laws_eqDelivery.f (k : Nat) (a0_0 : Int) (a0_1 : Int) (a0_2 : Int) (l0_3 : List Int) (a1_0 : Int) (a1_1 : Int) (a1_2 : Int) (l1_3 : List Int) : Option (Bool) := if a0_0 = a1_0 then (if a0_1 = a1_1 then (if a0_2 = a1_2 then ((laws_eqByteS.f k l0_3 l1_3).bind fun t338 => (if t338 = true then (some true) else (some false))) else (some false)) else (some false)) else (some false)
theorem laws_eqDelivery.mono : ∀ a0 a1 a2 a3 a4 a5 a6 a7 k, LeO (laws_eqDelivery.f k a0 a1 a2 a3 a4 a5 a6 a7) (laws_eqDelivery.f (k + 1) a0 a1 a2 a3 a4 a5 a6 a7) := by
 intro a0 a1 a2 a3 a4 a5 a6 a7 k
 unfold laws_eqDelivery.f
 repeat' first
   | (with_reducible exact laws_eqByteS.mono _ _ _)
   | (with_reducible exact LeO.refl _)
   | (with_reducible exact LeO.none _)
   | (with_reducible refine LeO.ite ?_ ?_)
   | (with_reducible refine LeO.bind ?_ (fun _ => ?_))
   | exact laws_eqByteS.mono _ _ _
   | exact LeO.none _
   | refine LeO.ite ?_ ?_
   | refine LeO.bind ?_ (fun _ => ?_)
set_option maxHeartbeats 8000000 in
set_option maxRecDepth 100000 in
theorem laws_eqDelivery.calls (k : Nat) (a0_0 : Int) (a0_1 : Int) (a0_2 : Int) (A0_3 : Option Addr) (c0_3 : Nat) (l0_3 : List Int) (a1_0 : Int) (a1_1 : Int) (a1_2 : Int) (A1_3 : Option Addr) (c1_3 : Nat) (l1_3 : List Int) (r : Bool) (w : World) (hr0_3 : Kd.C (Kd.int .u8) w A0_3 l0_3.length l0_3) (hc0_3 : l0_3.length ≤ c0_3) (hr1_3 : Kd.C (Kd.int .u8) w A1_3 l1_3.length l1_3) (hc1_3 : l1_3.length ≤ c1_3) (h : laws_eqDelivery.f k a0_0 a0_1 a0_2 l0_3 a1_0 a1_1 a1_2 l1_3 = some r) (hT : r = true := by rfl) :
  Calls Try.prog 170 #[.agg #[.int .i64 a0_0, .int .i64 a0_1, .int .i64 a0_2, .slice A0_3 l0_3.length c0_3], .agg #[.int .i64 a1_0, .int .i64 a1_1, .int .i64 a1_2, .slice A1_3 l1_3.length c1_3]] w fun e w' => e = .returned (.bool r) ∧ Below w.heap.size w w' := by
 have hu102 := Try.underlying102
 have HR0_3 := Am_ hr0_3
 have HC0_3 := Am_ hc0_3
 clear hr0_3 hc0_3
 have HR1_3 := Am_ hr1_3
 have HC1_3 := Am_ hc1_3
 clear hr1_3 hc1_3
 have HB := Am_ (Below.refl w.heap.size w)
 have H : (if a0_0 = a1_0 then (if a0_1 = a1_1 then (if a0_2 = a1_2 then ((laws_eqByteS.f k l0_3 l1_3).bind fun t338 => (if t338 = true then (some true) else (some false))) else (some false)) else (some false)) else (some false)) = some r := h
 clear h
 by_cases c3 : a0_0 = a1_0
 ·rw [if_pos c3] at H
  have c3b0 : (a0_0 == a1_0) = true := beq_iff_eq.mpr c3
  have c3b1 : (a0_0 != a1_0) = false := bne_eq_false_iff_eq.mpr c3
  clear c3
  by_cases c4 : a0_1 = a1_1
  ·rw [if_pos c4] at H
   have c4b0 : (a0_1 == a1_1) = true := beq_iff_eq.mpr c4
   have c4b1 : (a0_1 != a1_1) = false := bne_eq_false_iff_eq.mpr c4
   clear c4
   by_cases c5 : a0_2 = a1_2
   ·rw [if_pos c5] at H
    have c5b0 : (a0_2 == a1_2) = true := beq_iff_eq.mpr c5
    have c5b1 : (a0_2 != a1_2) = false := bne_eq_false_iff_eq.mpr c5
    clear c5
    replace H := Option.bind_eq_some_iff.mp H
    obtain ⟨t338, A60, H⟩ := H
    replace H : (if t338 = true then (some true) else (some false)) = some r := H
    have A6 := Am_ A60
    clear A60
    by_cases c7 : t338 = true
    ·subst c7
     have H1 : (some true) = some r := by rw [if_pos rfl] at H; exact H
     clear H
     have H := H1
     clear H1
     obtain rfl := Option.some.inj H
     go_enter Try.func170, Try.ntmps170
     go_wp2_with (first | ((with_reducible refine gate_dst (N := 2) rfl ?_); refine box_event ?hg (N := 2) ?hd (cs := #[.int .i64 a0_0, .int .i64 a0_1, .int .i64 a0_2, .slice A0_3 l0_3.length c0_3]) (t := 102) ?hr ?_; (case hd => rfl); (case hg => rfl); (case hr => first | (go_simp; done) | (go_simp; rfl)); intro gb336 hg w8 hbox hb; have n0_ := Am_ (bT_ (by repeat (first | (with_reducible first | exact HB.1 | apply bA_ | apply bN_ | apply bD_) | exact HB.1)) hb); have n1_ := Am_ (hbox); have n2_ := Am_ ((by rw [hg]; exact (bZ_ (by repeat (first | (with_reducible first | exact HB.1 | apply bA_ | apply bN_ | apply bD_) | exact HB.1))) : w.heap.size ≤ gb336)); have n3_ := Am_ ((by rw [hg]; exact (bZ_ (by repeat (first | (with_reducible first | exact HB.1 | apply bA_ | apply bN_ | apply bD_) | exact HB.1))) : w.heap.size ≤ gb336)); clear HB; have HB := n0_; have BK336 := n1_; have GW336 := n2_; have GE336 := n3_; clear n0_ n1_ n2_ n3_ hb hbox hg) | ((with_reducible refine gate_dst (N := 3) rfl ?_); refine box_event ?hg (N := 3) ?hd (cs := #[.int .i64 a1_0, .int .i64 a1_1, .int .i64 a1_2, .slice A1_3 l1_3.length c1_3]) (t := 102) ?hr ?_; (case hd => rfl); (case hg => rfl); (case hr => first | (go_simp; done) | (go_simp; rfl)); intro gb337 hg w9 hbox hb; have n0_ := Am_ (kB_ (g := gb336) (by (with_reducible repeat (first | refine kN_ ?_ _ | refine kD_ ?_ | refine kA_ ?_ _)); exact BK336.1) hb); have n1_ := Am_ (bT_ (by repeat (first | (with_reducible first | exact HB.1 | apply bA_ | apply bN_ | apply bD_ | refine bS_ ?_ GE336.1) | exact HB.1)) hb); have n2_ := Am_ (hbox); have n3_ := Am_ ((by rw [hg]; exact (bZ_ (by repeat (first | (with_reducible first | exact HB.1 | apply bA_ | apply bN_ | apply bD_ | refine bS_ ?_ GE336.1) | exact HB.1))) : w.heap.size ≤ gb337)); have n4_ := Am_ ((by rw [hg]; exact (bZ_ (by repeat (first | (with_reducible first | exact HB.1 | apply bA_ | apply bN_ | apply bD_ | refine bS_ ?_ GE336.1) | exact HB.1))) : w.heap.size ≤ gb337)); have n5_ := Am_ ((by rw [hg]; exact Nat.ne_of_lt (blk_lt (g := gb336) (by (with_reducible repeat (first | refine kN_ ?_ _ | refine kD_ ?_ | refine kA_ ?_ _)); exact BK336.1)) : gb336 ≠ gb337)); have n6_ := Am_ ((by rw [hg]; exact Nat.ne_of_gt (blk_lt (g := gb336) (by (with_reducible repeat (first | refine kN_ ?_ _ | refine kD_ ?_ | refine kA_ ?_ _)); exact BK336.1)) : gb337 ≠ gb336)); clear BK336 HB; have BK336 := n0_; have HB := n1_; have BK337 := n2_; have GW337 := n3_; have GE337 := n4_; have NB336_337 := n5_; have NB337_336 := n6_; clear n0_ n1_ n2_ n3_ n4_ n5_ n6_ hb hbox hg; have hnb10 := NB336_337.1; have hnc10 := NB337_336.1; have hcz11_0 : w9.cell? ⟨gb336, 0, none⟩ = some (.int .i64 a0_0) := kC_ BK336.1 0; have hcz11_1 : w9.cell? ⟨gb336, 1, none⟩ = some (.int .i64 a0_1) := kC_ BK336.1 1; have hcz11_2 : w9.cell? ⟨gb336, 2, none⟩ = some (.int .i64 a0_2) := kC_ BK336.1 2; have hcz11_3 : w9.cell? ⟨gb336, 3, none⟩ = some (.slice A0_3 l0_3.length c0_3) := kC_ BK336.1 3; have hfz11_0 := kF_ BK336.1 0; have hfz11_1 := kF_ BK336.1 1; have hfz11_2 := kF_ BK336.1 2; have hfz11_3 := kF_ BK336.1 3; have hcz12_0 : w9.cell? ⟨gb337, 0, none⟩ = some (.int .i64 a1_0) := kC_ BK337.1 0; have hcz12_1 : w9.cell? ⟨gb337, 1, none⟩ = some (.int .i64 a1_1) := kC_ BK337.1 1; have hcz12_2 : w9.cell? ⟨gb337, 2, none⟩ = some (.int .i64 a1_2) := kC_ BK337.1 2; have hcz12_3 : w9.cell? ⟨gb337, 3, none⟩ = some (.slice A1_3 l1_3.length c1_3) := kC_ BK337.1 3; have hfz12_0 := kF_ BK337.1 0; have hfz12_1 := kF_ BK337.1 1; have hfz12_2 := kF_ BK337.1 2; have hfz12_3 := kF_ BK337.1 3) | ((with_reducible refine gate_callee (f := 167) rfl ?_); refine goesL_ (some 24) rfl rfl Try.func167 (by kernel_rfl) rfl #[.slice A0_3 l0_3.length c0_3, .slice A1_3 l1_3.length c1_3] rfl (by (try simp only [List.map_toArray, List.map_cons, List.map_nil]); first | done | rfl | (simp only [List.length_drop, List.length_take]; rfl)) ?_; (with_reducible refine (laws_eqByteS.calls k _ _ l0_3 _ _ l1_3 true _ ?side1 ?side2 ?side3 ?side4 A6.1).mono ?_); (case side1 => repeat (first | exact (Kd.C_below HR0_3.1 HB.1) | (with_reducible refine Kd.C_alloc ?_ _) | (with_reducible refine Kd.C_drewN ?_ _) | (with_reducible refine Kd.C_drew ?_))); (case side2 => exact HC0_3.1); (case side3 => repeat (first | exact (Kd.C_below HR1_3.1 HB.1) | (with_reducible refine Kd.C_alloc ?_ _) | (with_reducible refine Kd.C_drewN ?_ _) | (with_reducible refine Kd.C_drew ?_))); (case side4 => exact HC1_3.1); rintro e w' ⟨rfl, ⟨nd, rfl⟩⟩; refine ⟨_, rfl, ?_⟩))
     go_ret
     exact ⟨by first | rfl | (simp [errW_none, errW_some] <;> rfl) | (simp [*, errW_none, errW_some] <;> rfl), by repeat (first | (with_reducible first | exact HB.1 | apply bA_ | apply bN_ | apply bD_ | refine bS_ ?_ GE336.1 | refine bS_ ?_ GE337.1) | exact HB.1)⟩
    ·replace c7 := Bool.eq_false_iff.mpr c7
     subst c7
     have H1 : (some false) = some r := by rw [if_neg (show ¬ (false = true) by decide)] at H; exact H
     clear H
     have H := H1
     clear H1
     obtain rfl := Option.some.inj H
     exact absurd hT (by decide)
   ·rw [if_neg c5] at H
    have c5b0 : (a0_2 == a1_2) = false := beq_eq_false_iff_ne.mpr c5
    have c5b1 : (a0_2 != a1_2) = true := bne_iff_ne.mpr c5
    obtain rfl := Option.some.inj H
    exact absurd hT (by decide)
  ·rw [if_neg c4] at H
   have c4b0 : (a0_1 == a1_1) = false := beq_eq_false_iff_ne.mpr c4
   have c4b1 : (a0_1 != a1_1) = true := bne_iff_ne.mpr c4
   obtain rfl := Option.some.inj H
   exact absurd hT (by decide)
 ·rw [if_neg c3] at H
  have c3b0 : (a0_0 == a1_0) = false := beq_eq_false_iff_ne.mpr c3
  have c3b1 : (a0_0 != a1_0) = true := bne_iff_ne.mpr c3
  obtain rfl := Option.some.inj H
  exact absurd hT (by decide)

/-! ### laws_eqDeliveryS: function 147 -/
def laws_eqDeliveryS.l0 : Nat → List (S102) → List (S102) → Int → Option (Bool)
 | 0, _, _, _ => none
 | k + 1, x0, x1, x5 => if x5 < (x0.length : Int) then (if 0 ≤ x5 then (if x5 < (x1.length : Int) then ((laws_eqDelivery.f k ((rd_T102 x0 x5).f0) ((rd_T102 x0 x5).f1) ((rd_T102 x0 x5).f2) ((rd_T102 x0 x5).f3) ((rd_T102 x1 x5).f0) ((rd_T102 x1 x5).f1) ((rd_T102 x1 x5).f2) ((rd_T102 x1 x5).f3)).bind fun t341 => (if t341 = true then (laws_eqDeliveryS.l0 k x0 x1 (wrap64 (x5 + 1))) else (some false))) else (none)) else (none)) else (some true)
def laws_eqDeliveryS.f (k : Nat) (l0 : List (S102)) (l1 : List (S102)) : Option (Bool) := if (l0.length : Int) = (l1.length : Int) then (laws_eqDeliveryS.l0 k l0 l1 0) else (some false)
theorem laws_eqDeliveryS.mono_l : ∀ k, (∀ y0 y1 y2, LeO (laws_eqDeliveryS.l0 k y0 y1 y2) (laws_eqDeliveryS.l0 (k + 1) y0 y1 y2))
 | 0 => fun _ _ _ r h => by simp [laws_eqDeliveryS.l0] at h
 | k + 1 => by
  have ih0 := laws_eqDeliveryS.mono_l k
  ·intro y0 y1 y2
   unfold laws_eqDeliveryS.l0
   repeat' first
   | (with_reducible exact ih0 _ _ _)
   | (with_reducible exact laws_eqDelivery.mono _ _ _ _ _ _ _ _ _)
   | (with_reducible exact LeO.refl _)
   | (with_reducible exact LeO.none _)
   | (with_reducible refine LeO.ite ?_ ?_)
   | (with_reducible refine LeO.bind ?_ (fun _ => ?_))
   | exact ih0 _ _ _
   | exact laws_eqDelivery.mono _ _ _ _ _ _ _ _ _
   | exact LeO.none _
   | refine LeO.ite ?_ ?_
   | refine LeO.bind ?_ (fun _ => ?_)
theorem laws_eqDeliveryS.mono : ∀ a0 a1 k, LeO (laws_eqDeliveryS.f k a0 a1) (laws_eqDeliveryS.f (k + 1) a0 a1) := by
 intro a0 a1 k
 have ih0 := laws_eqDeliveryS.mono_l k
 unfold laws_eqDeliveryS.f
 repeat' first
   | (with_reducible exact ih0 _ _ _)
   | (with_reducible exact laws_eqDelivery.mono _ _ _ _ _ _ _ _ _)
   | (with_reducible exact LeO.refl _)
   | (with_reducible exact LeO.none _)
   | (with_reducible refine LeO.ite ?_ ?_)
   | (with_reducible refine LeO.bind ?_ (fun _ => ?_))
   | exact ih0 _ _ _
   | exact laws_eqDelivery.mono _ _ _ _ _ _ _ _ _
   | exact LeO.none _
   | refine LeO.ite ?_ ?_
   | refine LeO.bind ?_ (fun _ => ?_)
def laws_eqDeliveryS.T6 : Bool × List (List Nat × List Nat) := (true, [([], []), ([], []), ([0, 1], [0, 1]), ([2], [2]), ([], []), ([], []), ([4, 5], [4, 5]), ([6], [6]), ([3, 7], [3, 7]), ([8], [8])])
def laws_eqDeliveryS.B6 : List Nat := [0, 0, 3, 7, 0, 0, 48, 112, 255, 511]
theorem laws_eqDeliveryS.tab6 : rtab .any (opsOf Try.f147 6) = laws_eqDeliveryS.T6 := by kernel_rfl
theorem laws_eqDeliveryS.bits6 : waitsOk laws_eqDeliveryS.T6.2 laws_eqDeliveryS.B6 = true := by kernel_rfl
set_option maxHeartbeats 8000000 in
set_option maxRecDepth 100000 in
theorem laws_eqDeliveryS.calls (k : Nat) (A0 : Option Addr) (c0 : Nat) (l0 : List (S102)) (A1 : Option Addr) (c1 : Nat) (l1 : List (S102)) (r : Bool) (w : World) (hr0 : Kd.C k102 w A0 l0.length l0) (hc0 : l0.length ≤ c0) (hr1 : Kd.C k102 w A1 l1.length l1) (hc1 : l1.length ≤ c1) (h : laws_eqDeliveryS.f k l0 l1 = some r) (hT : r = true := by rfl) :
  Calls Try.prog 147 #[.slice A0 l0.length c0, .slice A1 l1.length c1] w fun e w' => e = .returned (.bool r) ∧ Below w.heap.size w w' := by
 have hu102 := Try.underlying102
 have HR0 := Am_ hr0
 have HC0 := Am_ hc0
 clear hr0 hc0
 have HR1 := Am_ hr1
 have HC1 := Am_ hc1
 clear hr1 hc1
 have HB := Am_ (Below.refl w.heap.size w)
 have H : (if (l0.length : Int) = (l1.length : Int) then (laws_eqDeliveryS.l0 k l0 l1 0) else (some false)) = some r := h
 clear h
 by_cases c3 : (l0.length : Int) = (l1.length : Int)
 ·rw [if_pos c3] at H
  have c3b0 : ((l0.length : Int) == (l1.length : Int)) = true := beq_iff_eq.mpr c3
  have c3b1 : ((l0.length : Int) != (l1.length : Int)) = false := bne_eq_false_iff_eq.mpr c3
  have c3b2 : (l0.length == l1.length) = true := by first | simpa using c3 | (simp at c3 ⊢; omega)
  clear c3
  have H' := Am_ H
  clear H
  go_enter Try.func147, Try.ntmps147
  go_wp2
  go_loopg [5] k (fun kq v5 w' => ∃ (x5_1 : Int), v5 = .int .i64 x5_1 ∧ Aside0 (laws_eqDeliveryS.l0 kq l0 l1 x5_1 = some r) ∧ Aside0 (kq ≤ k) ∧ Aside0 (Below w.heap.size w w'))
  case atStart => exact ⟨(0), (by first | rfl | (simp; done) | (simp [*]; done)), H', ⟨Nat.le_refl _⟩, ⟨by repeat (first | (with_reducible first | exact HB.1 | apply bA_ | apply bN_ | apply bD_) | exact HB.1)⟩⟩
  case round =>
   clear H'
   try clear c1
   try clear p2
   try clear c3
   try clear c3b0
   try clear c3b1
   try clear c3b2
   obtain ⟨x5_1, rfl, HA, HK1, HB⟩ := hrel
   cases gk with
   | zero => exact absurd HA.1 (by simp [laws_eqDeliveryS.l0])
   | succ k1 =>
    have H := HA.1
    clear HA
    simp only [laws_eqDeliveryS.l0] at H
    by_cases c4 : x5_1 < (l0.length : Int)
    ·rw [if_pos c4] at H
     have c4b0 : decide (x5_1 < (l0.length : Int)) = true := decide_eq_true c4
     clear c4
     by_cases c5 : 0 ≤ x5_1
     ·rw [if_pos c5] at H
      have c5b0 : decide (0 ≤ x5_1) = true := decide_eq_true c5
      clear c5
      by_cases c6 : x5_1 < (l1.length : Int)
      ·rw [if_pos c6] at H
       have c6b0 : decide (x5_1 < (l1.length : Int)) = true := decide_eq_true c6
       clear c6
       replace H := Option.bind_eq_some_iff.mp H
       obtain ⟨t341, A70, H⟩ := H
       replace H : (if t341 = true then (laws_eqDeliveryS.l0 k1 l0 l1 (wrap64 (x5_1 + 1))) else (some false)) = some r := H
       have A7 := Am_ A70
       clear A70
       by_cases c8 : t341 = true
       ·subst c8
        have H1 : (laws_eqDeliveryS.l0 k1 l0 l1 (wrap64 (x5_1 + 1))) = some r := by rw [if_pos rfl] at H; exact H
        clear H
        have H := H1
        clear H1
        have H' := Am_ H
        clear H
        try go_wp2
        have n0_ := Am_ (bD_ HB.1)
        clear HB
        have HB := n0_
        clear n0_
        have p339 : 0 ≤ (x5_1 : Int) := of_decide_eq_true (by first | (with_reducible assumption) | assumption)
        have q339 : x5_1 < (l0.length : Int) := of_decide_eq_true (by first | (with_reducible assumption) | assumption)
        obtain ⟨ad339, A339_3, c339_3, e339, hx339_0, hx339_1, hx339_2, hx339_3, hl339_3, hi339_3⟩ := at_T102 HR0.1 x5_1 p339 q339
        have hw339_3 := hx339_3
        have hw339_2 := hx339_2
        have hw339_1 := hx339_1
        have hw339_0 := hx339_0
        cases e339
        replace hx339_0 := (HB.1.cell (World.block_lt_of_cell? w _ hx339_0)).trans hx339_0
        replace hx339_1 := (HB.1.cell (World.block_lt_of_cell? w _ hx339_1)).trans hx339_1
        replace hx339_2 := (HB.1.cell (World.block_lt_of_cell? w _ hx339_2)).trans hx339_2
        replace hx339_3 := (HB.1.cell (World.block_lt_of_cell? w _ hx339_3)).trans hx339_3
        have HR339_3 := Am_ hi339_3
        have HC339_3 := Am_ hl339_3
        clear hi339_3 hl339_3
        replace p339 := eq_true p339
        replace q339 := eq_true q339
        have p340 : 0 ≤ (x5_1 : Int) := of_decide_eq_true (by first | (with_reducible assumption) | assumption)
        have q340 : x5_1 < (l1.length : Int) := of_decide_eq_true (by first | (with_reducible assumption) | assumption)
        obtain ⟨ad340, A340_3, c340_3, e340, hx340_0, hx340_1, hx340_2, hx340_3, hl340_3, hi340_3⟩ := at_T102 HR1.1 x5_1 p340 q340
        have hw340_3 := hx340_3
        have hw340_2 := hx340_2
        have hw340_1 := hx340_1
        have hw340_0 := hx340_0
        cases e340
        replace hx340_0 := (HB.1.cell (World.block_lt_of_cell? w _ hx340_0)).trans hx340_0
        replace hx340_1 := (HB.1.cell (World.block_lt_of_cell? w _ hx340_1)).trans hx340_1
        replace hx340_2 := (HB.1.cell (World.block_lt_of_cell? w _ hx340_2)).trans hx340_2
        replace hx340_3 := (HB.1.cell (World.block_lt_of_cell? w _ hx340_3)).trans hx340_3
        have HR340_3 := Am_ hi340_3
        have HC340_3 := Am_ hl340_3
        clear hi340_3 hl340_3
        replace p340 := eq_true p340
        replace q340 := eq_true q340
        refine start_ (n := 10) (S := fun w' => w'.cell? (ad339.add ((x5_1).toNat * 4)) = some (.int .i64 ((rd_T102 l0 x5_1).f0)) ∧ w'.cell? ⟨(ad339.add ((x5_1).toNat * 4)).block, (ad339.add ((x5_1).toNat * 4)).off + 1, none⟩ = some (.int .i64 ((rd_T102 l0 x5_1).f1)) ∧ w'.cell? ⟨(ad339.add ((x5_1).toNat * 4)).block, (ad339.add ((x5_1).toNat * 4)).off + 2, none⟩ = some (.int .i64 ((rd_T102 l0 x5_1).f2)) ∧ w'.cell? ⟨(ad339.add ((x5_1).toNat * 4)).block, (ad339.add ((x5_1).toNat * 4)).off + 3, none⟩ = some (.slice A339_3 ((rd_T102 l0 x5_1).f3).length c339_3) ∧ w'.cell? (ad340.add ((x5_1).toNat * 4)) = some (.int .i64 ((rd_T102 l1 x5_1).f0)) ∧ w'.cell? ⟨(ad340.add ((x5_1).toNat * 4)).block, (ad340.add ((x5_1).toNat * 4)).off + 1, none⟩ = some (.int .i64 ((rd_T102 l1 x5_1).f1)) ∧ w'.cell? ⟨(ad340.add ((x5_1).toNat * 4)).block, (ad340.add ((x5_1).toNat * 4)).off + 2, none⟩ = some (.int .i64 ((rd_T102 l1 x5_1).f2)) ∧ w'.cell? ⟨(ad340.add ((x5_1).toNat * 4)).block, (ad340.add ((x5_1).toNat * 4)).off + 3, none⟩ = some (.slice A340_3 ((rd_T102 l1 x5_1).f3).length c340_3)) (ds := []) #[false, false, false, false, false, false, false, false, false, false] (by kernel_rfl) rfl rfl ⟨((HB.1.cell (World.block_lt_of_cell? w _ hw339_0)).trans hw339_0), ((HB.1.cell (World.block_lt_of_cell? w _ hw339_1)).trans hw339_1), ((HB.1.cell (World.block_lt_of_cell? w _ hw339_2)).trans hw339_2), ((HB.1.cell (World.block_lt_of_cell? w _ hw339_3)).trans hw339_3), ((HB.1.cell (World.block_lt_of_cell? w _ hw340_0)).trans hw340_0), ((HB.1.cell (World.block_lt_of_cell? w _ hw340_1)).trans hw340_1), ((HB.1.cell (World.block_lt_of_cell? w _ hw340_2)).trans hw340_2), ((HB.1.cell (World.block_lt_of_cell? w _ hw340_3)).trans hw340_3)⟩ (fun hHeld => ?_); refine with_tabW laws_eqDeliveryS.tab6 laws_eqDeliveryS.bits6 (fun HT_ HW_ => ?_)
        generalize wr.drew = w9 at HB HR339_3 HR340_3 hx339_0 hx339_1 hx339_2 hx339_3 hx340_0 hx340_1 hx340_2 hx340_3 hHeld ⊢
        refine pure_ (i := 0) (N := some 17) (v := ?_) (a' := ?_) #[true, false, false, false, false, false, false, false, false, false] rfl rfl (any_of HT_.out (by kernel_rfl)) (fun _ _ _ h => h) (Or.inl ⟨by rfl, ?_⟩) ?_ ?_
        rotate_left
        ·intro w'
         go_simp
         with_reducible rfl
        rotate_left
        ·simp only [Act.put, List.setIfInBounds_toArray, List.set_cons_zero, List.set_cons_succ, i64_w, i32_w]
         rfl
        refine pure_ (i := 1) (N := some 18) (v := ?_) (a' := ?_) #[true, true, false, false, false, false, false, false, false, false] rfl rfl (any_of HT_.out (by kernel_rfl)) (fun _ _ _ h => h) (Or.inl ⟨by rfl, ?_⟩) ?_ ?_
        rotate_left
        ·intro w'
         go_simp
         with_reducible rfl
        rotate_left
        ·simp only [Act.put, List.setIfInBounds_toArray, List.set_cons_zero, List.set_cons_succ, i64_w, i32_w]
         rfl
        refine pure_ (i := 2) (N := some 19) (v := ?_) (a' := ?_) #[true, true, true, false, false, false, false, false, false, false] rfl rfl (any_of HT_.out (by kernel_rfl)) (fun _ _ _ h => h) (Or.inl ⟨by rfl, ?_⟩) ?_ ?_
        rotate_left
        ·intro w'
         go_simp
         with_reducible rfl
        rotate_left
        ·simp only [Act.put, List.setIfInBounds_toArray, List.set_cons_zero, List.set_cons_succ, i64_w, i32_w]
         rfl
        refine pure_ (i := 4) (N := some 21) (v := ?_) (a' := ?_) #[true, true, true, false, true, false, false, false, false, false] rfl rfl (any_of HT_.out (by kernel_rfl)) (fun _ _ _ h => h) (Or.inl ⟨by rfl, ?_⟩) ?_ ?_
        rotate_left
        ·intro w'
         go_simp
         with_reducible rfl
        rotate_left
        ·simp only [Act.put, List.setIfInBounds_toArray, List.set_cons_zero, List.set_cons_succ, i64_w, i32_w]
         rfl
        refine pure_ (i := 5) (N := some 22) (v := ?_) (a' := ?_) #[true, true, true, false, true, true, false, false, false, false] rfl rfl (any_of HT_.out (by kernel_rfl)) (fun _ _ _ h => h) (Or.inl ⟨by rfl, ?_⟩) ?_ ?_
        rotate_left
        ·intro w'
         go_simp
         with_reducible rfl
        rotate_left
        ·simp only [Act.put, List.setIfInBounds_toArray, List.set_cons_zero, List.set_cons_succ, i64_w, i32_w]
         rfl
        refine pure_ (i := 6) (N := some 23) (v := ?_) (a' := ?_) #[true, true, true, false, true, true, true, false, false, false] rfl rfl (any_of HT_.out (by kernel_rfl)) (fun _ _ _ h => h) (Or.inl ⟨by rfl, ?_⟩) ?_ ?_
        rotate_left
        ·intro w'
         go_simp
         with_reducible rfl
        rotate_left
        ·simp only [Act.put, List.setIfInBounds_toArray, List.set_cons_zero, List.set_cons_succ, i64_w, i32_w]
         rfl
        refine take_ (i := 3) (N := some 20) (v := ?_) (a' := ?_) #[true, true, true, true, true, true, true, false, false, false] rfl rfl (take_ofW HT_.out HW_.out (by kernel_rfl)) (fun _ _ _ h => h) (Or.inl ⟨by rfl, ?_⟩) hHeld ?_ ?_
        rotate_left
        ·rintro w' ⟨s0, s1, s2, s3, s4, s5, s6, s7⟩
         go_simp
         with_reducible rfl
        rotate_left
        ·simp only [Act.put, List.setIfInBounds_toArray, List.set_cons_zero, List.set_cons_succ, i64_w, i32_w]
         rfl
        refine take_ (i := 7) (N := some 24) (v := ?_) (a' := ?_) #[true, true, true, true, true, true, true, true, false, false] rfl rfl (take_ofW HT_.out HW_.out (by kernel_rfl)) (fun _ _ _ h => h) (Or.inl ⟨by rfl, ?_⟩) hHeld ?_ ?_
        rotate_left
        ·rintro w' ⟨s0, s1, s2, s3, s4, s5, s6, s7⟩
         go_simp
         with_reducible rfl
        rotate_left
        ·simp only [Act.put, List.setIfInBounds_toArray, List.set_cons_zero, List.set_cons_succ, i64_w, i32_w]
         rfl
        refine one_ (i := 8) (N := some 25) #[true, true, true, true, true, true, true, true, true, false] rfl rfl (one_of HT_.out (by kernel_rfl)) (by decide) (fun K hK => ?_)
        refine goes_ Try.func170 (by kernel_rfl) rfl #[.agg #[.int .i64 ((rd_T102 l0 x5_1).f0), .int .i64 ((rd_T102 l0 x5_1).f1), .int .i64 ((rd_T102 l0 x5_1).f2), .slice A339_3 ((rd_T102 l0 x5_1).f3).length c339_3], .agg #[.int .i64 ((rd_T102 l1 x5_1).f0), .int .i64 ((rd_T102 l1 x5_1).f1), .int .i64 ((rd_T102 l1 x5_1).f2), .slice A340_3 ((rd_T102 l1 x5_1).f3).length c340_3]] (by rfl) rfl rfl (by (try simp only [List.map_toArray, List.map_cons, List.map_nil]); first | done | rfl | (simp only [List.length_drop, List.length_take]; rfl)) ?_
        with_reducible refine (laws_eqDelivery.calls k1 ((rd_T102 l0 x5_1).f0) ((rd_T102 l0 x5_1).f1) ((rd_T102 l0 x5_1).f2) _ _ ((rd_T102 l0 x5_1).f3) ((rd_T102 l1 x5_1).f0) ((rd_T102 l1 x5_1).f1) ((rd_T102 l1 x5_1).f2) _ _ ((rd_T102 l1 x5_1).f3) true _ ?side1 ?side2 ?side3 ?side4 A7.1).mono ?_
        (case side1 => repeat (first | exact (Kd.C_below HR339_3.1 HB.1) | (with_reducible refine Kd.C_alloc ?_ _) | (with_reducible refine Kd.C_drewN ?_ _) | (with_reducible refine Kd.C_drew ?_)))
        (case side2 => exact HC339_3.1)
        (case side3 => repeat (first | exact (Kd.C_below HR340_3.1 HB.1) | (with_reducible refine Kd.C_alloc ?_ _) | (with_reducible refine Kd.C_drewN ?_ _) | (with_reducible refine Kd.C_drew ?_)))
        (case side4 => exact HC340_3.1)
        rintro e w10 ⟨rfl, hb⟩
        refine ⟨_, rfl, ?_⟩
        have n0_ := Am_ (bT_ (by repeat (first | (with_reducible first | exact HB.1 | apply bA_ | apply bN_ | apply bD_) | exact HB.1)) hb)
        clear HB
        have HB := n0_
        clear n0_
        (try clear hb)
        (try clear hb2)
        (try clear hk)
        (try clear hi)
        refine hK.out _ _ ⟨((HB.1.cell (World.block_lt_of_cell? w _ hw339_0)).trans hw339_0), ((HB.1.cell (World.block_lt_of_cell? w _ hw339_1)).trans hw339_1), ((HB.1.cell (World.block_lt_of_cell? w _ hw339_2)).trans hw339_2), ((HB.1.cell (World.block_lt_of_cell? w _ hw339_3)).trans hw339_3), ((HB.1.cell (World.block_lt_of_cell? w _ hw340_0)).trans hw340_0), ((HB.1.cell (World.block_lt_of_cell? w _ hw340_1)).trans hw340_1), ((HB.1.cell (World.block_lt_of_cell? w _ hw340_2)).trans hw340_2), ((HB.1.cell (World.block_lt_of_cell? w _ hw340_3)).trans hw340_3)⟩ (fun hHeld => ?_)
        clear hK K
        refine norm_ (a' := ?_) ?_ ?_
        rotate_left
        ·show Act.put _ (some 25) _ = _
         simp only [Act.put, List.setIfInBounds_toArray, List.set_cons_zero, List.set_cons_succ, i64_w, i32_w]
         rfl
        refine pure_ (i := 9) (N := some 26) (v := ?_) (a' := ?_) #[true, true, true, true, true, true, true, true, true, true] rfl rfl (any_of HT_.out (by kernel_rfl)) (fun _ _ _ h => h) (Or.inl ⟨by rfl, ?_⟩) ?_ ?_
        rotate_left
        ·intro w'
         go_simp
         with_reducible rfl
        rotate_left
        ·simp only [Act.put, List.setIfInBounds_toArray, List.set_cons_zero, List.set_cons_succ, i64_w, i32_w]
         rfl
        refine done_ (done_of HT_.out (by kernel_rfl)) ?_
        try go_wp2
        go_roundg k1
        case measure => have := HK1.1; omega
        case rel => exact ⟨(wrap64 (x5_1 + 1)), (by first | rfl | (simp; done) | (simp [*]; done)), H', ⟨by have := HK1.1; omega⟩, ⟨by repeat (first | (with_reducible first | exact HB.1 | apply bA_ | apply bN_ | apply bD_) | exact HB.1)⟩⟩
       ·replace c8 := Bool.eq_false_iff.mpr c8
        subst c8
        have H1 : (some false) = some r := by rw [if_neg (show ¬ (false = true) by decide)] at H; exact H
        clear H
        have H := H1
        clear H1
        obtain rfl := Option.some.inj H
        exact absurd hT (by decide)
      ·rw [if_neg c6] at H
       exact absurd H (by simp)
     ·rw [if_neg c5] at H
      exact absurd H (by simp)
    ·rw [if_neg c4] at H
     have c4b0 : decide (x5_1 < (l0.length : Int)) = false := decide_eq_false c4
     clear c4
     obtain rfl := Option.some.inj H
     go_wp2
     go_ret
     exact ⟨by first | rfl | (simp [errW_none, errW_some] <;> rfl) | (simp [*, errW_none, errW_some] <;> rfl), by repeat (first | (with_reducible first | exact HB.1 | apply bA_ | apply bN_ | apply bD_) | exact HB.1)⟩
 ·rw [if_neg c3] at H
  have c3b0 : ((l0.length : Int) == (l1.length : Int)) = false := beq_eq_false_iff_ne.mpr c3
  have c3b1 : ((l0.length : Int) != (l1.length : Int)) = true := bne_iff_ne.mpr c3
  have c3b2 : (l0.length == l1.length) = false := by first | simpa using c3 | (simp at c3 ⊢; omega)
  obtain rfl := Option.some.inj H
  exact absurd hT (by decide)

/-! ### laws_eqAirStation: function 102 -/
def laws_eqAirStation.f (k : Nat) (l0_0 : List (S173)) (a0_1 : Int) (a0_2 : Bool) (a0_3 : Int) (a0_4 : Int) (a0_5 : Int) (l0_6 : List Int) (a0_7 : Bool) (a0_8 : Int) (a0_9 : Int) (a0_10 : Int) (a0_11 : Int) (a0_12 : Int) (a0_13 : Int) (a0_14 : Int) (a0_15 : Int) (a0_16 : Int) (l0_17 : List (S88)) (a0_18 : Int) (a0_19 : Int) (l0_20 : List (S141)) (l0_21 : List (S102)) (l1_0 : List (S173)) (a1_1 : Int) (a1_2 : Bool) (a1_3 : Int) (a1_4 : Int) (a1_5 : Int) (l1_6 : List Int) (a1_7 : Bool) (a1_8 : Int) (a1_9 : Int) (a1_10 : Int) (a1_11 : Int) (a1_12 : Int) (a1_13 : Int) (a1_14 : Int) (a1_15 : Int) (a1_16 : Int) (l1_17 : List (S88)) (a1_18 : Int) (a1_19 : Int) (l1_20 : List (S141)) (l1_21 : List (S102)) : Option (Bool) := (laws_eqTransmitQueue.f k l0_0 a0_1 l1_0 a1_1).bind fun t344 => (if t344 = true then (if (a0_2 != a1_2) = true then (some false) else ((laws_eqAirFrame.f k a0_3 a0_4 a0_5 l0_6 a0_7 a1_3 a1_4 a1_5 l1_6 a1_7).bind fun t345 => (if t345 = true then ((laws_eqBackoff.f a0_8 a0_9 a0_10 a0_11 a0_12 a0_13 a0_14 a0_15 a0_16 a1_8 a1_9 a1_10 a1_11 a1_12 a1_13 a1_14 a1_15 a1_16).bind fun t346 => (if t346 = true then ((laws_eqAirFrameS.f k l0_17 l1_17).bind fun t347 => (if t347 = true then (if a0_18 = a1_18 then (if a0_19 = a1_19 then ((laws_eqSeenFrameS.f k l0_20 l1_20).bind fun t348 => (if t348 = true then ((laws_eqDeliveryS.f k l0_21 l1_21).bind fun t349 => (if t349 = true then (some true) else (some false))) else (some false))) else (some false)) else (some false)) else (some false))) else (some false))) else (some false)))) else (some false))
theorem laws_eqAirStation.mono : ∀ a0 a1 a2 a3 a4 a5 a6 a7 a8 a9 a10 a11 a12 a13 a14 a15 a16 a17 a18 a19 a20 a21 a22 a23 a24 a25 a26 a27 a28 a29 a30 a31 a32 a33 a34 a35 a36 a37 a38 a39 a40 a41 a42 a43 k, LeO (laws_eqAirStation.f k a0 a1 a2 a3 a4 a5 a6 a7 a8 a9 a10 a11 a12 a13 a14 a15 a16 a17 a18 a19 a20 a21 a22 a23 a24 a25 a26 a27 a28 a29 a30 a31 a32 a33 a34 a35 a36 a37 a38 a39 a40 a41 a42 a43) (laws_eqAirStation.f (k + 1) a0 a1 a2 a3 a4 a5 a6 a7 a8 a9 a10 a11 a12 a13 a14 a15 a16 a17 a18 a19 a20 a21 a22 a23 a24 a25 a26 a27 a28 a29 a30 a31 a32 a33 a34 a35 a36 a37 a38 a39 a40 a41 a42 a43) := by
 intro a0 a1 a2 a3 a4 a5 a6 a7 a8 a9 a10 a11 a12 a13 a14 a15 a16 a17 a18 a19 a20 a21 a22 a23 a24 a25 a26 a27 a28 a29 a30 a31 a32 a33 a34 a35 a36 a37 a38 a39 a40 a41 a42 a43 k
 unfold laws_eqAirStation.f
 repeat' first
   | (with_reducible exact laws_eqAirFrame.mono _ _ _ _ _ _ _ _ _ _ _)
   | (with_reducible exact laws_eqAirFrameS.mono _ _ _)
   | (with_reducible exact laws_eqDeliveryS.mono _ _ _)
   | (with_reducible exact laws_eqSeenFrameS.mono _ _ _)
   | (with_reducible exact laws_eqTransmitQueue.mono _ _ _ _ _)
   | (with_reducible exact LeO.refl _)
   | (with_reducible exact LeO.none _)
   | (with_reducible refine LeO.ite ?_ ?_)
   | (with_reducible refine LeO.bind ?_ (fun _ => ?_))
   | exact laws_eqAirFrame.mono _ _ _ _ _ _ _ _ _ _ _
   | exact laws_eqAirFrameS.mono _ _ _
   | exact laws_eqDeliveryS.mono _ _ _
   | exact laws_eqSeenFrameS.mono _ _ _
   | exact laws_eqTransmitQueue.mono _ _ _ _ _
   | exact LeO.none _
   | refine LeO.ite ?_ ?_
   | refine LeO.bind ?_ (fun _ => ?_)
set_option maxHeartbeats 8000000 in
set_option maxRecDepth 100000 in
theorem laws_eqAirStation.calls (k : Nat) (A0_0 : Option Addr) (c0_0 : Nat) (l0_0 : List (S173)) (a0_1 : Int) (a0_2 : Bool) (a0_3 : Int) (a0_4 : Int) (a0_5 : Int) (A0_6 : Option Addr) (c0_6 : Nat) (l0_6 : List Int) (a0_7 : Bool) (a0_8 : Int) (a0_9 : Int) (a0_10 : Int) (a0_11 : Int) (a0_12 : Int) (a0_13 : Int) (a0_14 : Int) (a0_15 : Int) (a0_16 : Int) (A0_17 : Option Addr) (c0_17 : Nat) (l0_17 : List (S88)) (a0_18 : Int) (a0_19 : Int) (A0_20 : Option Addr) (c0_20 : Nat) (l0_20 : List (S141)) (A0_21 : Option Addr) (c0_21 : Nat) (l0_21 : List (S102)) (A1_0 : Option Addr) (c1_0 : Nat) (l1_0 : List (S173)) (a1_1 : Int) (a1_2 : Bool) (a1_3 : Int) (a1_4 : Int) (a1_5 : Int) (A1_6 : Option Addr) (c1_6 : Nat) (l1_6 : List Int) (a1_7 : Bool) (a1_8 : Int) (a1_9 : Int) (a1_10 : Int) (a1_11 : Int) (a1_12 : Int) (a1_13 : Int) (a1_14 : Int) (a1_15 : Int) (a1_16 : Int) (A1_17 : Option Addr) (c1_17 : Nat) (l1_17 : List (S88)) (a1_18 : Int) (a1_19 : Int) (A1_20 : Option Addr) (c1_20 : Nat) (l1_20 : List (S141)) (A1_21 : Option Addr) (c1_21 : Nat) (l1_21 : List (S102)) (r : Bool) (w : World) (hr0_0 : Kd.C k173 w A0_0 l0_0.length l0_0) (hc0_0 : l0_0.length ≤ c0_0) (hr0_6 : Kd.C (Kd.int .u8) w A0_6 l0_6.length l0_6) (hc0_6 : l0_6.length ≤ c0_6) (hr0_17 : Kd.C k88 w A0_17 l0_17.length l0_17) (hc0_17 : l0_17.length ≤ c0_17) (hr0_20 : Kd.C k141 w A0_20 l0_20.length l0_20) (hc0_20 : l0_20.length ≤ c0_20) (hr0_21 : Kd.C k102 w A0_21 l0_21.length l0_21) (hc0_21 : l0_21.length ≤ c0_21) (hr1_0 : Kd.C k173 w A1_0 l1_0.length l1_0) (hc1_0 : l1_0.length ≤ c1_0) (hr1_6 : Kd.C (Kd.int .u8) w A1_6 l1_6.length l1_6) (hc1_6 : l1_6.length ≤ c1_6) (hr1_17 : Kd.C k88 w A1_17 l1_17.length l1_17) (hc1_17 : l1_17.length ≤ c1_17) (hr1_20 : Kd.C k141 w A1_20 l1_20.length l1_20) (hc1_20 : l1_20.length ≤ c1_20) (hr1_21 : Kd.C k102 w A1_21 l1_21.length l1_21) (hc1_21 : l1_21.length ≤ c1_21) (h : laws_eqAirStation.f k l0_0 a0_1 a0_2 a0_3 a0_4 a0_5 l0_6 a0_7 a0_8 a0_9 a0_10 a0_11 a0_12 a0_13 a0_14 a0_15 a0_16 l0_17 a0_18 a0_19 l0_20 l0_21 l1_0 a1_1 a1_2 a1_3 a1_4 a1_5 l1_6 a1_7 a1_8 a1_9 a1_10 a1_11 a1_12 a1_13 a1_14 a1_15 a1_16 l1_17 a1_18 a1_19 l1_20 l1_21 = some r) (hT : r = true := by rfl) :
  Calls Try.prog 102 #[.agg #[.slice A0_0 l0_0.length c0_0, .int .i64 a0_1, .bool a0_2, .int .i64 a0_3, .int .i64 a0_4, .int .i64 a0_5, .slice A0_6 l0_6.length c0_6, .bool a0_7, .int .i64 a0_8, .int .i64 a0_9, .int .i64 a0_10, .int .i64 a0_11, .int .i64 a0_12, .int .i64 a0_13, .int .i64 a0_14, .int .i64 a0_15, .int .i64 a0_16, .slice A0_17 l0_17.length c0_17, .int .i64 a0_18, .int .i64 a0_19, .slice A0_20 l0_20.length c0_20, .slice A0_21 l0_21.length c0_21], .agg #[.slice A1_0 l1_0.length c1_0, .int .i64 a1_1, .bool a1_2, .int .i64 a1_3, .int .i64 a1_4, .int .i64 a1_5, .slice A1_6 l1_6.length c1_6, .bool a1_7, .int .i64 a1_8, .int .i64 a1_9, .int .i64 a1_10, .int .i64 a1_11, .int .i64 a1_12, .int .i64 a1_13, .int .i64 a1_14, .int .i64 a1_15, .int .i64 a1_16, .slice A1_17 l1_17.length c1_17, .int .i64 a1_18, .int .i64 a1_19, .slice A1_20 l1_20.length c1_20, .slice A1_21 l1_21.length c1_21]] w fun e w' => e = .returned (.bool r) ∧ Below w.heap.size w w' := by
 have hu97 := Try.underlying97
 have hu85 := Try.underlying85
 have hu88 := Try.underlying88
 have hu92 := Try.underlying92
 have HR0_0 := Am_ hr0_0
 have HC0_0 := Am_ hc0_0
 clear hr0_0 hc0_0
 have HR0_6 := Am_ hr0_6
 have HC0_6 := Am_ hc0_6
 clear hr0_6 hc0_6
 have HR0_17 := Am_ hr0_17
 have HC0_17 := Am_ hc0_17
 clear hr0_17 hc0_17
 have HR0_20 := Am_ hr0_20
 have HC0_20 := Am_ hc0_20
 clear hr0_20 hc0_20
 have HR0_21 := Am_ hr0_21
 have HC0_21 := Am_ hc0_21
 clear hr0_21 hc0_21
 have HR1_0 := Am_ hr1_0
 have HC1_0 := Am_ hc1_0
 clear hr1_0 hc1_0
 have HR1_6 := Am_ hr1_6
 have HC1_6 := Am_ hc1_6
 clear hr1_6 hc1_6
 have HR1_17 := Am_ hr1_17
 have HC1_17 := Am_ hc1_17
 clear hr1_17 hc1_17
 have HR1_20 := Am_ hr1_20
 have HC1_20 := Am_ hc1_20
 clear hr1_20 hc1_20
 have HR1_21 := Am_ hr1_21
 have HC1_21 := Am_ hc1_21
 clear hr1_21 hc1_21
 have HB := Am_ (Below.refl w.heap.size w)
 have H : ((laws_eqTransmitQueue.f k l0_0 a0_1 l1_0 a1_1).bind fun t344 => (if t344 = true then (if (a0_2 != a1_2) = true then (some false) else ((laws_eqAirFrame.f k a0_3 a0_4 a0_5 l0_6 a0_7 a1_3 a1_4 a1_5 l1_6 a1_7).bind fun t345 => (if t345 = true then ((laws_eqBackoff.f a0_8 a0_9 a0_10 a0_11 a0_12 a0_13 a0_14 a0_15 a0_16 a1_8 a1_9 a1_10 a1_11 a1_12 a1_13 a1_14 a1_15 a1_16).bind fun t346 => (if t346 = true then ((laws_eqAirFrameS.f k l0_17 l1_17).bind fun t347 => (if t347 = true then (if a0_18 = a1_18 then (if a0_19 = a1_19 then ((laws_eqSeenFrameS.f k l0_20 l1_20).bind fun t348 => (if t348 = true then ((laws_eqDeliveryS.f k l0_21 l1_21).bind fun t349 => (if t349 = true then (some true) else (some false))) else (some false))) else (some false)) else (some false)) else (some false))) else (some false))) else (some false)))) else (some false))) = some r := h
 clear h
 replace H := Option.bind_eq_some_iff.mp H
 obtain ⟨t344, A30, H⟩ := H
 replace H : (if t344 = true then (if (a0_2 != a1_2) = true then (some false) else ((laws_eqAirFrame.f k a0_3 a0_4 a0_5 l0_6 a0_7 a1_3 a1_4 a1_5 l1_6 a1_7).bind fun t345 => (if t345 = true then ((laws_eqBackoff.f a0_8 a0_9 a0_10 a0_11 a0_12 a0_13 a0_14 a0_15 a0_16 a1_8 a1_9 a1_10 a1_11 a1_12 a1_13 a1_14 a1_15 a1_16).bind fun t346 => (if t346 = true then ((laws_eqAirFrameS.f k l0_17 l1_17).bind fun t347 => (if t347 = true then (if a0_18 = a1_18 then (if a0_19 = a1_19 then ((laws_eqSeenFrameS.f k l0_20 l1_20).bind fun t348 => (if t348 = true then ((laws_eqDeliveryS.f k l0_21 l1_21).bind fun t349 => (if t349 = true then (some true) else (some false))) else (some false))) else (some false)) else (some false)) else (some false))) else (some false))) else (some false)))) else (some false)) = some r := H
 have A3 := Am_ A30
 clear A30
 by_cases c4 : t344 = true
 ·subst c4
  have H1 : (if (a0_2 != a1_2) = true then (some false) else ((laws_eqAirFrame.f k a0_3 a0_4 a0_5 l0_6 a0_7 a1_3 a1_4 a1_5 l1_6 a1_7).bind fun t345 => (if t345 = true then ((laws_eqBackoff.f a0_8 a0_9 a0_10 a0_11 a0_12 a0_13 a0_14 a0_15 a0_16 a1_8 a1_9 a1_10 a1_11 a1_12 a1_13 a1_14 a1_15 a1_16).bind fun t346 => (if t346 = true then ((laws_eqAirFrameS.f k l0_17 l1_17).bind fun t347 => (if t347 = true then (if a0_18 = a1_18 then (if a0_19 = a1_19 then ((laws_eqSeenFrameS.f k l0_20 l1_20).bind fun t348 => (if t348 = true then ((laws_eqDeliveryS.f k l0_21 l1_21).bind fun t349 => (if t349 = true then (some true) else (some false))) else (some false))) else (some false)) else (some false)) else (some false))) else (some false))) else (some false)))) = some r := by rw [if_pos rfl] at H; exact H
  clear H
  have H := H1
  clear H1
  by_cases c5 : (a0_2 != a1_2) = true
  ·rw [if_pos c5] at H
   have c5b0 : (a0_2 != a1_2) = true := c5
   (try (have c5b1 : decide (a0_2 = a1_2) = false := by simpa using c5))
   (try (have c5b2 : (a0_2 == a1_2) = false := by simpa using c5))
   (try (have c5b3 : ¬ (a0_2 = a1_2) := by simpa using c5))
   clear c5
   obtain rfl := Option.some.inj H
   exact absurd hT (by decide)
  ·rw [if_neg c5] at H
   have c5b0 : (a0_2 != a1_2) = false := by simpa using c5
   (try (have c5b1 : decide (a0_2 = a1_2) = true := by simpa using c5))
   (try (have c5b2 : (a0_2 == a1_2) = true := by simpa using c5))
   clear c5
   replace H := Option.bind_eq_some_iff.mp H
   obtain ⟨t345, A140, H⟩ := H
   replace H : (if t345 = true then ((laws_eqBackoff.f a0_8 a0_9 a0_10 a0_11 a0_12 a0_13 a0_14 a0_15 a0_16 a1_8 a1_9 a1_10 a1_11 a1_12 a1_13 a1_14 a1_15 a1_16).bind fun t346 => (if t346 = true then ((laws_eqAirFrameS.f k l0_17 l1_17).bind fun t347 => (if t347 = true then (if a0_18 = a1_18 then (if a0_19 = a1_19 then ((laws_eqSeenFrameS.f k l0_20 l1_20).bind fun t348 => (if t348 = true then ((laws_eqDeliveryS.f k l0_21 l1_21).bind fun t349 => (if t349 = true then (some true) else (some false))) else (some false))) else (some false)) else (some false)) else (some false))) else (some false))) else (some false)) = some r := H
   have A14 := Am_ A140
   clear A140
   by_cases c15 : t345 = true
   ·subst c15
    have H1 : ((laws_eqBackoff.f a0_8 a0_9 a0_10 a0_11 a0_12 a0_13 a0_14 a0_15 a0_16 a1_8 a1_9 a1_10 a1_11 a1_12 a1_13 a1_14 a1_15 a1_16).bind fun t346 => (if t346 = true then ((laws_eqAirFrameS.f k l0_17 l1_17).bind fun t347 => (if t347 = true then (if a0_18 = a1_18 then (if a0_19 = a1_19 then ((laws_eqSeenFrameS.f k l0_20 l1_20).bind fun t348 => (if t348 = true then ((laws_eqDeliveryS.f k l0_21 l1_21).bind fun t349 => (if t349 = true then (some true) else (some false))) else (some false))) else (some false)) else (some false)) else (some false))) else (some false))) = some r := by rw [if_pos rfl] at H; exact H
    clear H
    have H := H1
    clear H1
    replace H := Option.bind_eq_some_iff.mp H
    obtain ⟨t346, A160, H⟩ := H
    replace H : (if t346 = true then ((laws_eqAirFrameS.f k l0_17 l1_17).bind fun t347 => (if t347 = true then (if a0_18 = a1_18 then (if a0_19 = a1_19 then ((laws_eqSeenFrameS.f k l0_20 l1_20).bind fun t348 => (if t348 = true then ((laws_eqDeliveryS.f k l0_21 l1_21).bind fun t349 => (if t349 = true then (some true) else (some false))) else (some false))) else (some false)) else (some false)) else (some false))) else (some false)) = some r := H
    have A16 := Am_ A160
    clear A160
    by_cases c17 : t346 = true
    ·subst c17
     have H1 : ((laws_eqAirFrameS.f k l0_17 l1_17).bind fun t347 => (if t347 = true then (if a0_18 = a1_18 then (if a0_19 = a1_19 then ((laws_eqSeenFrameS.f k l0_20 l1_20).bind fun t348 => (if t348 = true then ((laws_eqDeliveryS.f k l0_21 l1_21).bind fun t349 => (if t349 = true then (some true) else (some false))) else (some false))) else (some false)) else (some false)) else (some false))) = some r := by rw [if_pos rfl] at H; exact H
     clear H
     have H := H1
     clear H1
     replace H := Option.bind_eq_some_iff.mp H
     obtain ⟨t347, A180, H⟩ := H
     replace H : (if t347 = true then (if a0_18 = a1_18 then (if a0_19 = a1_19 then ((laws_eqSeenFrameS.f k l0_20 l1_20).bind fun t348 => (if t348 = true then ((laws_eqDeliveryS.f k l0_21 l1_21).bind fun t349 => (if t349 = true then (some true) else (some false))) else (some false))) else (some false)) else (some false)) else (some false)) = some r := H
     have A18 := Am_ A180
     clear A180
     by_cases c19 : t347 = true
     ·subst c19
      have H1 : (if a0_18 = a1_18 then (if a0_19 = a1_19 then ((laws_eqSeenFrameS.f k l0_20 l1_20).bind fun t348 => (if t348 = true then ((laws_eqDeliveryS.f k l0_21 l1_21).bind fun t349 => (if t349 = true then (some true) else (some false))) else (some false))) else (some false)) else (some false)) = some r := by rw [if_pos rfl] at H; exact H
      clear H
      have H := H1
      clear H1
      by_cases c20 : a0_18 = a1_18
      ·rw [if_pos c20] at H
       have c20b0 : (a0_18 == a1_18) = true := beq_iff_eq.mpr c20
       have c20b1 : (a0_18 != a1_18) = false := bne_eq_false_iff_eq.mpr c20
       clear c20
       by_cases c21 : a0_19 = a1_19
       ·rw [if_pos c21] at H
        have c21b0 : (a0_19 == a1_19) = true := beq_iff_eq.mpr c21
        have c21b1 : (a0_19 != a1_19) = false := bne_eq_false_iff_eq.mpr c21
        clear c21
        replace H := Option.bind_eq_some_iff.mp H
        obtain ⟨t348, A220, H⟩ := H
        replace H : (if t348 = true then ((laws_eqDeliveryS.f k l0_21 l1_21).bind fun t349 => (if t349 = true then (some true) else (some false))) else (some false)) = some r := H
        have A22 := Am_ A220
        clear A220
        by_cases c23 : t348 = true
        ·subst c23
         have H1 : ((laws_eqDeliveryS.f k l0_21 l1_21).bind fun t349 => (if t349 = true then (some true) else (some false))) = some r := by rw [if_pos rfl] at H; exact H
         clear H
         have H := H1
         clear H1
         replace H := Option.bind_eq_some_iff.mp H
         obtain ⟨t349, A240, H⟩ := H
         replace H : (if t349 = true then (some true) else (some false)) = some r := H
         have A24 := Am_ A240
         clear A240
         by_cases c25 : t349 = true
         ·subst c25
          have H1 : (some true) = some r := by rw [if_pos rfl] at H; exact H
          clear H
          have H := H1
          clear H1
          obtain rfl := Option.some.inj H
          go_enter Try.func102, Try.ntmps102
          go_wp2_with (first | ((with_reducible refine gate_dst (N := 2) rfl ?_); refine box_event ?hg (N := 2) ?hd (cs := #[.slice A0_0 l0_0.length c0_0, .int .i64 a0_1, .bool a0_2, .int .i64 a0_3, .int .i64 a0_4, .int .i64 a0_5, .slice A0_6 l0_6.length c0_6, .bool a0_7, .int .i64 a0_8, .int .i64 a0_9, .int .i64 a0_10, .int .i64 a0_11, .int .i64 a0_12, .int .i64 a0_13, .int .i64 a0_14, .int .i64 a0_15, .int .i64 a0_16, .slice A0_17 l0_17.length c0_17, .int .i64 a0_18, .int .i64 a0_19, .slice A0_20 l0_20.length c0_20, .slice A0_21 l0_21.length c0_21]) (t := 97) ?hr ?_; (case hd => rfl); (case hg => rfl); (case hr => first | (go_simp; done) | (go_simp; rfl)); intro gb342 hg w26 hbox hb; have n0_ := Am_ (bT_ (by repeat (first | (with_reducible first | exact HB.1 | apply bA_ | apply bN_ | apply bD_) | exact HB.1)) hb); have n1_ := Am_ (hbox); have n2_ := Am_ ((by rw [hg]; exact (bZ_ (by repeat (first | (with_reducible first | exact HB.1 | apply bA_ | apply bN_ | apply bD_) | exact HB.1))) : w.heap.size ≤ gb342)); have n3_ := Am_ ((by rw [hg]; exact (bZ_ (by repeat (first | (with_reducible first | exact HB.1 | apply bA_ | apply bN_ | apply bD_) | exact HB.1))) : w.heap.size ≤ gb342)); clear HB; have HB := n0_; have BK342 := n1_; have GW342 := n2_; have GE342 := n3_; clear n0_ n1_ n2_ n3_ hb hbox hg) | ((with_reducible refine gate_dst (N := 3) rfl ?_); refine box_event ?hg (N := 3) ?hd (cs := #[.slice A1_0 l1_0.length c1_0, .int .i64 a1_1, .bool a1_2, .int .i64 a1_3, .int .i64 a1_4, .int .i64 a1_5, .slice A1_6 l1_6.length c1_6, .bool a1_7, .int .i64 a1_8, .int .i64 a1_9, .int .i64 a1_10, .int .i64 a1_11, .int .i64 a1_12, .int .i64 a1_13, .int .i64 a1_14, .int .i64 a1_15, .int .i64 a1_16, .slice A1_17 l1_17.length c1_17, .int .i64 a1_18, .int .i64 a1_19, .slice A1_20 l1_20.length c1_20, .slice A1_21 l1_21.length c1_21]) (t := 97) ?hr ?_; (case hd => rfl); (case hg => rfl); (case hr => first | (go_simp; done) | (go_simp; rfl)); intro gb343 hg w27 hbox hb; have n0_ := Am_ (kB_ (g := gb342) (by (with_reducible repeat (first | refine kN_ ?_ _ | refine kD_ ?_ | refine kA_ ?_ _)); exact BK342.1) hb); have n1_ := Am_ (bT_ (by repeat (first | (with_reducible first | exact HB.1 | apply bA_ | apply bN_ | apply bD_ | refine bS_ ?_ GE342.1) | exact HB.1)) hb); have n2_ := Am_ (hbox); have n3_ := Am_ ((by rw [hg]; exact (bZ_ (by repeat (first | (with_reducible first | exact HB.1 | apply bA_ | apply bN_ | apply bD_ | refine bS_ ?_ GE342.1) | exact HB.1))) : w.heap.size ≤ gb343)); have n4_ := Am_ ((by rw [hg]; exact (bZ_ (by repeat (first | (with_reducible first | exact HB.1 | apply bA_ | apply bN_ | apply bD_ | refine bS_ ?_ GE342.1) | exact HB.1))) : w.heap.size ≤ gb343)); have n5_ := Am_ ((by rw [hg]; exact Nat.ne_of_lt (blk_lt (g := gb342) (by (with_reducible repeat (first | refine kN_ ?_ _ | refine kD_ ?_ | refine kA_ ?_ _)); exact BK342.1)) : gb342 ≠ gb343)); have n6_ := Am_ ((by rw [hg]; exact Nat.ne_of_gt (blk_lt (g := gb342) (by (with_reducible repeat (first | refine kN_ ?_ _ | refine kD_ ?_ | refine kA_ ?_ _)); exact BK342.1)) : gb343 ≠ gb342)); clear BK342 HB; have BK342 := n0_; have HB := n1_; have BK343 := n2_; have GW343 := n3_; have GE343 := n4_; have NB342_343 := n5_; have NB343_342 := n6_; clear n0_ n1_ n2_ n3_ n4_ n5_ n6_ hb hbox hg; have hnb28 := NB342_343.1; have hnc28 := NB343_342.1; have hcz29_0 : w27.cell? ⟨gb342, 0, none⟩ = some (.slice A0_0 l0_0.length c0_0) := kC_ BK342.1 0; have hcz29_1 : w27.cell? ⟨gb342, 1, none⟩ = some (.int .i64 a0_1) := kC_ BK342.1 1; have hcz29_2 : w27.cell? ⟨gb342, 2, none⟩ = some (.bool a0_2) := kC_ BK342.1 2; have hcz29_18 : w27.cell? ⟨gb342, 18, none⟩ = some (.int .i64 a0_18) := kC_ BK342.1 18; have hcz29_19 : w27.cell? ⟨gb342, 19, none⟩ = some (.int .i64 a0_19) := kC_ BK342.1 19; have hfz29_0 := kF_ BK342.1 0; have hfz29_1 := kF_ BK342.1 1; have hfz29_2 := kF_ BK342.1 2; have hfz29_18 := kF_ BK342.1 18; have hfz29_19 := kF_ BK342.1 19; have hcz30_0 : w27.cell? ⟨gb343, 0, none⟩ = some (.slice A1_0 l1_0.length c1_0) := kC_ BK343.1 0; have hcz30_1 : w27.cell? ⟨gb343, 1, none⟩ = some (.int .i64 a1_1) := kC_ BK343.1 1; have hcz30_2 : w27.cell? ⟨gb343, 2, none⟩ = some (.bool a1_2) := kC_ BK343.1 2; have hcz30_18 : w27.cell? ⟨gb343, 18, none⟩ = some (.int .i64 a1_18) := kC_ BK343.1 18; have hcz30_19 : w27.cell? ⟨gb343, 19, none⟩ = some (.int .i64 a1_19) := kC_ BK343.1 19; have hfz30_0 := kF_ BK343.1 0; have hfz30_1 := kF_ BK343.1 1; have hfz30_2 := kF_ BK343.1 2; have hfz30_18 := kF_ BK343.1 18; have hfz30_19 := kF_ BK343.1 19) | ((with_reducible refine gate_callee (f := 142) rfl ?_); refine goesL_ (some 9) rfl rfl Try.func142 (by kernel_rfl) rfl #[.agg #[.slice A0_0 l0_0.length c0_0, .int .i64 a0_1], .agg #[.slice A1_0 l1_0.length c1_0, .int .i64 a1_1]] rfl (by (try simp only [List.map_toArray, List.map_cons, List.map_nil]); first | done | rfl | (simp only [List.length_drop, List.length_take]; rfl)) ?_; (with_reducible refine (laws_eqTransmitQueue.calls k _ _ l0_0 a0_1 _ _ l1_0 a1_1 true _ ?side1 ?side2 ?side3 ?side4 A3.1).mono ?_); (case side1 => repeat (first | exact (Kd.C_below HR0_0.1 HB.1) | (with_reducible refine Kd.C_alloc ?_ _) | (with_reducible refine Kd.C_drewN ?_ _) | (with_reducible refine Kd.C_drew ?_))); (case side2 => exact HC0_0.1); (case side3 => repeat (first | exact (Kd.C_below HR1_0.1 HB.1) | (with_reducible refine Kd.C_alloc ?_ _) | (with_reducible refine Kd.C_drewN ?_ _) | (with_reducible refine Kd.C_drew ?_))); (case side4 => exact HC1_0.1); rintro e w31 ⟨rfl, hb⟩; refine ⟨_, rfl, ?_⟩; have n0_ := Am_ (kB_ (g := gb342) (by (with_reducible repeat (first | refine kN_ ?_ _ | refine kD_ ?_ | refine kA_ ?_ _)); exact BK342.1) hb); have n1_ := Am_ (kB_ (g := gb343) (by (with_reducible repeat (first | refine kN_ ?_ _ | refine kD_ ?_ | refine kA_ ?_ _)); exact BK343.1) hb); have n2_ := Am_ (bT_ (by repeat (first | (with_reducible first | exact HB.1 | apply bA_ | apply bN_ | apply bD_ | refine bS_ ?_ GE342.1 | refine bS_ ?_ GE343.1) | exact HB.1)) hb); clear BK342 BK343 HB; have BK342 := n0_; have BK343 := n1_; have HB := n2_; clear n0_ n1_ n2_; (try clear hb); (try clear hb2); (try clear hk); (try clear hi); have hcz32_2 : w31.cell? ⟨gb342, 2, none⟩ = some (.bool a0_2) := kC_ BK342.1 2; have hcz32_3 : w31.cell? ⟨gb342, 3, none⟩ = some (.int .i64 a0_3) := kC_ BK342.1 3; have hcz32_4 : w31.cell? ⟨gb342, 4, none⟩ = some (.int .i64 a0_4) := kC_ BK342.1 4; have hcz32_5 : w31.cell? ⟨gb342, 5, none⟩ = some (.int .i64 a0_5) := kC_ BK342.1 5; have hcz32_6 : w31.cell? ⟨gb342, 6, none⟩ = some (.slice A0_6 l0_6.length c0_6) := kC_ BK342.1 6; have hcz32_7 : w31.cell? ⟨gb342, 7, none⟩ = some (.bool a0_7) := kC_ BK342.1 7; have hcz32_18 : w31.cell? ⟨gb342, 18, none⟩ = some (.int .i64 a0_18) := kC_ BK342.1 18; have hcz32_19 : w31.cell? ⟨gb342, 19, none⟩ = some (.int .i64 a0_19) := kC_ BK342.1 19; have hfz32_2 := kF_ BK342.1 2; have hfz32_3 := kF_ BK342.1 3; have hfz32_4 := kF_ BK342.1 4; have hfz32_5 := kF_ BK342.1 5; have hfz32_6 := kF_ BK342.1 6; have hfz32_7 := kF_ BK342.1 7; have hfz32_18 := kF_ BK342.1 18; have hfz32_19 := kF_ BK342.1 19; have hcz33_2 : w31.cell? ⟨gb343, 2, none⟩ = some (.bool a1_2) := kC_ BK343.1 2; have hcz33_3 : w31.cell? ⟨gb343, 3, none⟩ = some (.int .i64 a1_3) := kC_ BK343.1 3; have hcz33_4 : w31.cell? ⟨gb343, 4, none⟩ = some (.int .i64 a1_4) := kC_ BK343.1 4; have hcz33_5 : w31.cell? ⟨gb343, 5, none⟩ = some (.int .i64 a1_5) := kC_ BK343.1 5; have hcz33_6 : w31.cell? ⟨gb343, 6, none⟩ = some (.slice A1_6 l1_6.length c1_6) := kC_ BK343.1 6; have hcz33_7 : w31.cell? ⟨gb343, 7, none⟩ = some (.bool a1_7) := kC_ BK343.1 7; have hcz33_18 : w31.cell? ⟨gb343, 18, none⟩ = some (.int .i64 a1_18) := kC_ BK343.1 18; have hcz33_19 : w31.cell? ⟨gb343, 19, none⟩ = some (.int .i64 a1_19) := kC_ BK343.1 19; have hfz33_2 := kF_ BK343.1 2; have hfz33_3 := kF_ BK343.1 3; have hfz33_4 := kF_ BK343.1 4; have hfz33_5 := kF_ BK343.1 5; have hfz33_6 := kF_ BK343.1 6; have hfz33_7 := kF_ BK343.1 7; have hfz33_18 := kF_ BK343.1 18; have hfz33_19 := kF_ BK343.1 19) | ((with_reducible refine gate_callee (f := 143) rfl ?_); refine goesL_ (some 20) rfl rfl Try.func143 (by kernel_rfl) rfl #[.agg #[.int .i64 a0_3, .int .i64 a0_4, .int .i64 a0_5, .slice A0_6 l0_6.length c0_6, .bool a0_7], .agg #[.int .i64 a1_3, .int .i64 a1_4, .int .i64 a1_5, .slice A1_6 l1_6.length c1_6, .bool a1_7]] rfl (by (try simp only [List.map_toArray, List.map_cons, List.map_nil]); first | done | rfl | (simp only [List.length_drop, List.length_take]; rfl)) ?_; (with_reducible refine (laws_eqAirFrame.calls k a0_3 a0_4 a0_5 _ _ l0_6 a0_7 a1_3 a1_4 a1_5 _ _ l1_6 a1_7 true _ ?side1 ?side2 ?side3 ?side4 A14.1).mono ?_); (case side1 => repeat (first | exact (Kd.C_below HR0_6.1 HB.1) | (with_reducible refine Kd.C_alloc ?_ _) | (with_reducible refine Kd.C_drewN ?_ _) | (with_reducible refine Kd.C_drew ?_))); (case side2 => exact HC0_6.1); (case side3 => repeat (first | exact (Kd.C_below HR1_6.1 HB.1) | (with_reducible refine Kd.C_alloc ?_ _) | (with_reducible refine Kd.C_drewN ?_ _) | (with_reducible refine Kd.C_drew ?_))); (case side4 => exact HC1_6.1); rintro e w34 ⟨rfl, hb⟩; refine ⟨_, rfl, ?_⟩; have n0_ := Am_ (kB_ (g := gb342) (by (with_reducible repeat (first | refine kN_ ?_ _ | refine kD_ ?_ | refine kA_ ?_ _)); exact BK342.1) hb); have n1_ := Am_ (kB_ (g := gb343) (by (with_reducible repeat (first | refine kN_ ?_ _ | refine kD_ ?_ | refine kA_ ?_ _)); exact BK343.1) hb); have n2_ := Am_ (bT_ (by repeat (first | (with_reducible first | exact HB.1 | apply bA_ | apply bN_ | apply bD_ | refine bS_ ?_ GE342.1 | refine bS_ ?_ GE343.1) | exact HB.1)) hb); clear BK342 BK343 HB; have BK342 := n0_; have BK343 := n1_; have HB := n2_; clear n0_ n1_ n2_; (try clear hb); (try clear hb2); (try clear hk); (try clear hi); have hcz35_2 : w34.cell? ⟨gb342, 2, none⟩ = some (.bool a0_2) := kC_ BK342.1 2; have hcz35_8 : w34.cell? ⟨gb342, 8, none⟩ = some (.int .i64 a0_8) := kC_ BK342.1 8; have hcz35_9 : w34.cell? ⟨gb342, 9, none⟩ = some (.int .i64 a0_9) := kC_ BK342.1 9; have hcz35_10 : w34.cell? ⟨gb342, 10, none⟩ = some (.int .i64 a0_10) := kC_ BK342.1 10; have hcz35_11 : w34.cell? ⟨gb342, 11, none⟩ = some (.int .i64 a0_11) := kC_ BK342.1 11; have hcz35_12 : w34.cell? ⟨gb342, 12, none⟩ = some (.int .i64 a0_12) := kC_ BK342.1 12; have hcz35_13 : w34.cell? ⟨gb342, 13, none⟩ = some (.int .i64 a0_13) := kC_ BK342.1 13; have hcz35_14 : w34.cell? ⟨gb342, 14, none⟩ = some (.int .i64 a0_14) := kC_ BK342.1 14; have hcz35_15 : w34.cell? ⟨gb342, 15, none⟩ = some (.int .i64 a0_15) := kC_ BK342.1 15; have hcz35_16 : w34.cell? ⟨gb342, 16, none⟩ = some (.int .i64 a0_16) := kC_ BK342.1 16; have hcz35_18 : w34.cell? ⟨gb342, 18, none⟩ = some (.int .i64 a0_18) := kC_ BK342.1 18; have hcz35_19 : w34.cell? ⟨gb342, 19, none⟩ = some (.int .i64 a0_19) := kC_ BK342.1 19; have hfz35_2 := kF_ BK342.1 2; have hfz35_8 := kF_ BK342.1 8; have hfz35_9 := kF_ BK342.1 9; have hfz35_10 := kF_ BK342.1 10; have hfz35_11 := kF_ BK342.1 11; have hfz35_12 := kF_ BK342.1 12; have hfz35_13 := kF_ BK342.1 13; have hfz35_14 := kF_ BK342.1 14; have hfz35_15 := kF_ BK342.1 15; have hfz35_16 := kF_ BK342.1 16; have hfz35_18 := kF_ BK342.1 18; have hfz35_19 := kF_ BK342.1 19; have hcz36_2 : w34.cell? ⟨gb343, 2, none⟩ = some (.bool a1_2) := kC_ BK343.1 2; have hcz36_8 : w34.cell? ⟨gb343, 8, none⟩ = some (.int .i64 a1_8) := kC_ BK343.1 8; have hcz36_9 : w34.cell? ⟨gb343, 9, none⟩ = some (.int .i64 a1_9) := kC_ BK343.1 9; have hcz36_10 : w34.cell? ⟨gb343, 10, none⟩ = some (.int .i64 a1_10) := kC_ BK343.1 10; have hcz36_11 : w34.cell? ⟨gb343, 11, none⟩ = some (.int .i64 a1_11) := kC_ BK343.1 11; have hcz36_12 : w34.cell? ⟨gb343, 12, none⟩ = some (.int .i64 a1_12) := kC_ BK343.1 12; have hcz36_13 : w34.cell? ⟨gb343, 13, none⟩ = some (.int .i64 a1_13) := kC_ BK343.1 13; have hcz36_14 : w34.cell? ⟨gb343, 14, none⟩ = some (.int .i64 a1_14) := kC_ BK343.1 14; have hcz36_15 : w34.cell? ⟨gb343, 15, none⟩ = some (.int .i64 a1_15) := kC_ BK343.1 15; have hcz36_16 : w34.cell? ⟨gb343, 16, none⟩ = some (.int .i64 a1_16) := kC_ BK343.1 16; have hcz36_18 : w34.cell? ⟨gb343, 18, none⟩ = some (.int .i64 a1_18) := kC_ BK343.1 18; have hcz36_19 : w34.cell? ⟨gb343, 19, none⟩ = some (.int .i64 a1_19) := kC_ BK343.1 19; have hfz36_2 := kF_ BK343.1 2; have hfz36_8 := kF_ BK343.1 8; have hfz36_9 := kF_ BK343.1 9; have hfz36_10 := kF_ BK343.1 10; have hfz36_11 := kF_ BK343.1 11; have hfz36_12 := kF_ BK343.1 12; have hfz36_13 := kF_ BK343.1 13; have hfz36_14 := kF_ BK343.1 14; have hfz36_15 := kF_ BK343.1 15; have hfz36_16 := kF_ BK343.1 16; have hfz36_18 := kF_ BK343.1 18; have hfz36_19 := kF_ BK343.1 19) | ((with_reducible refine gate_callee (f := 144) rfl ?_); refine goesL_ (some 26) rfl rfl Try.func144 (by kernel_rfl) rfl #[.agg #[.int .i64 a0_8, .int .i64 a0_9, .int .i64 a0_10, .int .i64 a0_11, .int .i64 a0_12, .int .i64 a0_13, .int .i64 a0_14, .int .i64 a0_15, .int .i64 a0_16], .agg #[.int .i64 a1_8, .int .i64 a1_9, .int .i64 a1_10, .int .i64 a1_11, .int .i64 a1_12, .int .i64 a1_13, .int .i64 a1_14, .int .i64 a1_15, .int .i64 a1_16]] rfl (by (try simp only [List.map_toArray, List.map_cons, List.map_nil]); first | done | rfl | (simp only [List.length_drop, List.length_take]; rfl)) ?_; (with_reducible refine (laws_eqBackoff.calls a0_8 a0_9 a0_10 a0_11 a0_12 a0_13 a0_14 a0_15 a0_16 a1_8 a1_9 a1_10 a1_11 a1_12 a1_13 a1_14 a1_15 a1_16 true _ A16.1).mono ?_); rintro e w37 ⟨rfl, hb⟩; refine ⟨_, rfl, ?_⟩; have n0_ := Am_ (kB_ (g := gb342) (by (with_reducible repeat (first | refine kN_ ?_ _ | refine kD_ ?_ | refine kA_ ?_ _)); exact BK342.1) hb); have n1_ := Am_ (kB_ (g := gb343) (by (with_reducible repeat (first | refine kN_ ?_ _ | refine kD_ ?_ | refine kA_ ?_ _)); exact BK343.1) hb); have n2_ := Am_ (bT_ (by repeat (first | (with_reducible first | exact HB.1 | apply bA_ | apply bN_ | apply bD_ | refine bS_ ?_ GE342.1 | refine bS_ ?_ GE343.1) | exact HB.1)) hb); clear BK342 BK343 HB; have BK342 := n0_; have BK343 := n1_; have HB := n2_; clear n0_ n1_ n2_; (try clear hb); (try clear hb2); (try clear hk); (try clear hi); have hcz38_2 : w37.cell? ⟨gb342, 2, none⟩ = some (.bool a0_2) := kC_ BK342.1 2; have hcz38_17 : w37.cell? ⟨gb342, 17, none⟩ = some (.slice A0_17 l0_17.length c0_17) := kC_ BK342.1 17; have hcz38_18 : w37.cell? ⟨gb342, 18, none⟩ = some (.int .i64 a0_18) := kC_ BK342.1 18; have hcz38_19 : w37.cell? ⟨gb342, 19, none⟩ = some (.int .i64 a0_19) := kC_ BK342.1 19; have hfz38_2 := kF_ BK342.1 2; have hfz38_17 := kF_ BK342.1 17; have hfz38_18 := kF_ BK342.1 18; have hfz38_19 := kF_ BK342.1 19; have hcz39_2 : w37.cell? ⟨gb343, 2, none⟩ = some (.bool a1_2) := kC_ BK343.1 2; have hcz39_17 : w37.cell? ⟨gb343, 17, none⟩ = some (.slice A1_17 l1_17.length c1_17) := kC_ BK343.1 17; have hcz39_18 : w37.cell? ⟨gb343, 18, none⟩ = some (.int .i64 a1_18) := kC_ BK343.1 18; have hcz39_19 : w37.cell? ⟨gb343, 19, none⟩ = some (.int .i64 a1_19) := kC_ BK343.1 19; have hfz39_2 := kF_ BK343.1 2; have hfz39_17 := kF_ BK343.1 17; have hfz39_18 := kF_ BK343.1 18; have hfz39_19 := kF_ BK343.1 19) | ((with_reducible refine gate_callee (f := 145) rfl ?_); refine goesL_ (some 32) rfl rfl Try.func145 (by kernel_rfl) rfl #[.slice A0_17 l0_17.length c0_17, .slice A1_17 l1_17.length c1_17] rfl (by (try simp only [List.map_toArray, List.map_cons, List.map_nil]); first | done | rfl | (simp only [List.length_drop, List.length_take]; rfl)) ?_; (with_reducible refine (laws_eqAirFrameS.calls k _ _ l0_17 _ _ l1_17 true _ ?side1 ?side2 ?side3 ?side4 A18.1).mono ?_); (case side1 => repeat (first | exact (Kd.C_below HR0_17.1 HB.1) | (with_reducible refine Kd.C_alloc ?_ _) | (with_reducible refine Kd.C_drewN ?_ _) | (with_reducible refine Kd.C_drew ?_))); (case side2 => exact HC0_17.1); (case side3 => repeat (first | exact (Kd.C_below HR1_17.1 HB.1) | (with_reducible refine Kd.C_alloc ?_ _) | (with_reducible refine Kd.C_drewN ?_ _) | (with_reducible refine Kd.C_drew ?_))); (case side4 => exact HC1_17.1); rintro e w40 ⟨rfl, hb⟩; refine ⟨_, rfl, ?_⟩; have n0_ := Am_ (kB_ (g := gb342) (by (with_reducible repeat (first | refine kN_ ?_ _ | refine kD_ ?_ | refine kA_ ?_ _)); exact BK342.1) hb); have n1_ := Am_ (kB_ (g := gb343) (by (with_reducible repeat (first | refine kN_ ?_ _ | refine kD_ ?_ | refine kA_ ?_ _)); exact BK343.1) hb); have n2_ := Am_ (bT_ (by repeat (first | (with_reducible first | exact HB.1 | apply bA_ | apply bN_ | apply bD_ | refine bS_ ?_ GE342.1 | refine bS_ ?_ GE343.1) | exact HB.1)) hb); clear BK342 BK343 HB; have BK342 := n0_; have BK343 := n1_; have HB := n2_; clear n0_ n1_ n2_; (try clear hb); (try clear hb2); (try clear hk); (try clear hi); have hcz41_2 : w40.cell? ⟨gb342, 2, none⟩ = some (.bool a0_2) := kC_ BK342.1 2; have hcz41_18 : w40.cell? ⟨gb342, 18, none⟩ = some (.int .i64 a0_18) := kC_ BK342.1 18; have hcz41_19 : w40.cell? ⟨gb342, 19, none⟩ = some (.int .i64 a0_19) := kC_ BK342.1 19; have hcz41_20 : w40.cell? ⟨gb342, 20, none⟩ = some (.slice A0_20 l0_20.length c0_20) := kC_ BK342.1 20; have hfz41_2 := kF_ BK342.1 2; have hfz41_18 := kF_ BK342.1 18; have hfz41_19 := kF_ BK342.1 19; have hfz41_20 := kF_ BK342.1 20; have hcz42_2 : w40.cell? ⟨gb343, 2, none⟩ = some (.bool a1_2) := kC_ BK343.1 2; have hcz42_18 : w40.cell? ⟨gb343, 18, none⟩ = some (.int .i64 a1_18) := kC_ BK343.1 18; have hcz42_19 : w40.cell? ⟨gb343, 19, none⟩ = some (.int .i64 a1_19) := kC_ BK343.1 19; have hcz42_20 : w40.cell? ⟨gb343, 20, none⟩ = some (.slice A1_20 l1_20.length c1_20) := kC_ BK343.1 20; have hfz42_2 := kF_ BK343.1 2; have hfz42_18 := kF_ BK343.1 18; have hfz42_19 := kF_ BK343.1 19; have hfz42_20 := kF_ BK343.1 20) | ((with_reducible refine gate_callee (f := 146) rfl ?_); refine goesL_ (some 48) rfl rfl Try.func146 (by kernel_rfl) rfl #[.slice A0_20 l0_20.length c0_20, .slice A1_20 l1_20.length c1_20] rfl (by (try simp only [List.map_toArray, List.map_cons, List.map_nil]); first | done | rfl | (simp only [List.length_drop, List.length_take]; rfl)) ?_; (with_reducible refine (laws_eqSeenFrameS.calls k _ _ l0_20 _ _ l1_20 true _ ?side1 ?side2 ?side3 ?side4 A22.1).mono ?_); (case side1 => repeat (first | exact (Kd.C_below HR0_20.1 HB.1) | (with_reducible refine Kd.C_alloc ?_ _) | (with_reducible refine Kd.C_drewN ?_ _) | (with_reducible refine Kd.C_drew ?_))); (case side2 => exact HC0_20.1); (case side3 => repeat (first | exact (Kd.C_below HR1_20.1 HB.1) | (with_reducible refine Kd.C_alloc ?_ _) | (with_reducible refine Kd.C_drewN ?_ _) | (with_reducible refine Kd.C_drew ?_))); (case side4 => exact HC1_20.1); rintro e w43 ⟨rfl, hb⟩; refine ⟨_, rfl, ?_⟩; have n0_ := Am_ (kB_ (g := gb342) (by (with_reducible repeat (first | refine kN_ ?_ _ | refine kD_ ?_ | refine kA_ ?_ _)); exact BK342.1) hb); have n1_ := Am_ (kB_ (g := gb343) (by (with_reducible repeat (first | refine kN_ ?_ _ | refine kD_ ?_ | refine kA_ ?_ _)); exact BK343.1) hb); have n2_ := Am_ (bT_ (by repeat (first | (with_reducible first | exact HB.1 | apply bA_ | apply bN_ | apply bD_ | refine bS_ ?_ GE342.1 | refine bS_ ?_ GE343.1) | exact HB.1)) hb); clear BK342 BK343 HB; have BK342 := n0_; have BK343 := n1_; have HB := n2_; clear n0_ n1_ n2_; (try clear hb); (try clear hb2); (try clear hk); (try clear hi); have hcz44_2 : w43.cell? ⟨gb342, 2, none⟩ = some (.bool a0_2) := kC_ BK342.1 2; have hcz44_18 : w43.cell? ⟨gb342, 18, none⟩ = some (.int .i64 a0_18) := kC_ BK342.1 18; have hcz44_19 : w43.cell? ⟨gb342, 19, none⟩ = some (.int .i64 a0_19) := kC_ BK342.1 19; have hcz44_21 : w43.cell? ⟨gb342, 21, none⟩ = some (.slice A0_21 l0_21.length c0_21) := kC_ BK342.1 21; have hfz44_2 := kF_ BK342.1 2; have hfz44_18 := kF_ BK342.1 18; have hfz44_19 := kF_ BK342.1 19; have hfz44_21 := kF_ BK342.1 21; have hcz45_2 : w43.cell? ⟨gb343, 2, none⟩ = some (.bool a1_2) := kC_ BK343.1 2; have hcz45_18 : w43.cell? ⟨gb343, 18, none⟩ = some (.int .i64 a1_18) := kC_ BK343.1 18; have hcz45_19 : w43.cell? ⟨gb343, 19, none⟩ = some (.int .i64 a1_19) := kC_ BK343.1 19; have hcz45_21 : w43.cell? ⟨gb343, 21, none⟩ = some (.slice A1_21 l1_21.length c1_21) := kC_ BK343.1 21; have hfz45_2 := kF_ BK343.1 2; have hfz45_18 := kF_ BK343.1 18; have hfz45_19 := kF_ BK343.1 19; have hfz45_21 := kF_ BK343.1 21) | ((with_reducible refine gate_callee (f := 147) rfl ?_); refine goesL_ (some 54) rfl rfl Try.func147 (by kernel_rfl) rfl #[.slice A0_21 l0_21.length c0_21, .slice A1_21 l1_21.length c1_21] rfl (by (try simp only [List.map_toArray, List.map_cons, List.map_nil]); first | done | rfl | (simp only [List.length_drop, List.length_take]; rfl)) ?_; (with_reducible refine (laws_eqDeliveryS.calls k _ _ l0_21 _ _ l1_21 true _ ?side1 ?side2 ?side3 ?side4 A24.1).mono ?_); (case side1 => repeat (first | exact (Kd.C_below HR0_21.1 HB.1) | (with_reducible refine Kd.C_alloc ?_ _) | (with_reducible refine Kd.C_drewN ?_ _) | (with_reducible refine Kd.C_drew ?_))); (case side2 => exact HC0_21.1); (case side3 => repeat (first | exact (Kd.C_below HR1_21.1 HB.1) | (with_reducible refine Kd.C_alloc ?_ _) | (with_reducible refine Kd.C_drewN ?_ _) | (with_reducible refine Kd.C_drew ?_))); (case side4 => exact HC1_21.1); rintro e w46 ⟨rfl, hb⟩; refine ⟨_, rfl, ?_⟩; have n0_ := Am_ (kB_ (g := gb342) (by (with_reducible repeat (first | refine kN_ ?_ _ | refine kD_ ?_ | refine kA_ ?_ _)); exact BK342.1) hb); have n1_ := Am_ (kB_ (g := gb343) (by (with_reducible repeat (first | refine kN_ ?_ _ | refine kD_ ?_ | refine kA_ ?_ _)); exact BK343.1) hb); have n2_ := Am_ (bT_ (by repeat (first | (with_reducible first | exact HB.1 | apply bA_ | apply bN_ | apply bD_ | refine bS_ ?_ GE342.1 | refine bS_ ?_ GE343.1) | exact HB.1)) hb); clear BK342 BK343 HB; have BK342 := n0_; have BK343 := n1_; have HB := n2_; clear n0_ n1_ n2_; (try clear hb); (try clear hb2); (try clear hk); (try clear hi)))
          go_ret
          exact ⟨by first | rfl | (simp [errW_none, errW_some] <;> rfl) | (simp [*, errW_none, errW_some] <;> rfl), by repeat (first | (with_reducible first | exact HB.1 | apply bA_ | apply bN_ | apply bD_ | refine bS_ ?_ GE342.1 | refine bS_ ?_ GE343.1) | exact HB.1)⟩
         ·replace c25 := Bool.eq_false_iff.mpr c25
          subst c25
          have H1 : (some false) = some r := by rw [if_neg (show ¬ (false = true) by decide)] at H; exact H
          clear H
          have H := H1
          clear H1
          obtain rfl := Option.some.inj H
          exact absurd hT (by decide)
        ·replace c23 := Bool.eq_false_iff.mpr c23
         subst c23
         have H1 : (some false) = some r := by rw [if_neg (show ¬ (false = true) by decide)] at H; exact H
         clear H
         have H := H1
         clear H1
         obtain rfl := Option.some.inj H
         exact absurd hT (by decide)
       ·rw [if_neg c21] at H
        have c21b0 : (a0_19 == a1_19) = false := beq_eq_false_iff_ne.mpr c21
        have c21b1 : (a0_19 != a1_19) = true := bne_iff_ne.mpr c21
        obtain rfl := Option.some.inj H
        exact absurd hT (by decide)
      ·rw [if_neg c20] at H
       have c20b0 : (a0_18 == a1_18) = false := beq_eq_false_iff_ne.mpr c20
       have c20b1 : (a0_18 != a1_18) = true := bne_iff_ne.mpr c20
       obtain rfl := Option.some.inj H
       exact absurd hT (by decide)
     ·replace c19 := Bool.eq_false_iff.mpr c19
      subst c19
      have H1 : (some false) = some r := by rw [if_neg (show ¬ (false = true) by decide)] at H; exact H
      clear H
      have H := H1
      clear H1
      obtain rfl := Option.some.inj H
      exact absurd hT (by decide)
    ·replace c17 := Bool.eq_false_iff.mpr c17
     subst c17
     have H1 : (some false) = some r := by rw [if_neg (show ¬ (false = true) by decide)] at H; exact H
     clear H
     have H := H1
     clear H1
     obtain rfl := Option.some.inj H
     exact absurd hT (by decide)
   ·replace c15 := Bool.eq_false_iff.mpr c15
    subst c15
    have H1 : (some false) = some r := by rw [if_neg (show ¬ (false = true) by decide)] at H; exact H
    clear H
    have H := H1
    clear H1
    obtain rfl := Option.some.inj H
    exact absurd hT (by decide)
 ·replace c4 := Bool.eq_false_iff.mpr c4
  subst c4
  have H1 : (some false) = some r := by rw [if_neg (show ¬ (false = true) by decide)] at H; exact H
  clear H
  have H := H1
  clear H1
  obtain rfl := Option.some.inj H
  exact absurd hT (by decide)

end Go.Proofs.Ytlkofdedkfmaeaa.XFnExactDeliveredOnce
