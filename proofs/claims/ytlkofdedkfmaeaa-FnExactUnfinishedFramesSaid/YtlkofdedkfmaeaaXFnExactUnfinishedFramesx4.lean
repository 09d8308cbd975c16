/- The functions that the law reaches as plain Lean functions, and of each a proof that its call computes it. Conditions: those that each theorem names. -/
import Derived.Test.YtlkofdedkfmaeaaSL
import Derived.Test.YtlkofdedkfmaeaaWS
import Derived.Test.YtlkofdedkfmaeaaWB
import Derived.Test.YtlkofdedkfmaeaaXFnExactUnfinishedFramesx0
import Derived.Test.YtlkofdedkfmaeaaXFnExactUnfinishedFramesx2
import Derived.Test.YtlkofdedkfmaeaaXFnExactUnfinishedFramesx3
namespace Go.Proofs.Ytlkofdedkfmaeaa.XFnExactUnfinishedFrames
open Go.RowKit Go.Proofs.YtlkofdedkfmaeaaW.PrintWords Go.Proofs.YtlkofdedkfmaeaaW.PrintLast Go.Proofs.YtlkofdedkfmaeaaW.PrintMore Go.Proofs.Ytlkofdedkfmaeaa.X
attribute [local go_sem] max2_int min2_int max_two min_two max_three min_three max_four min_four   -- for this text's walks alone
set_option linter.unusedVariables false
set_option linter.unusedSimpArgs false

/-! ### laws_toDeliveryS: function 141 -/
def laws_toDeliveryS.l0 : Nat → List (S182) → List (S102) → Int → Option ((List (S102)))
 | 0, _, _, _ => none
 | k + 1, x0, x3, x4 => if x4 < (x0.length : Int) then (if 0 ≤ x4 then ((laws_toDelivery.f k ((rd_T182 x0 x4).f0) ((rd_T182 x0 x4).f1) ((rd_T182 x0 x4).f2) ((rd_T182 x0 x4).f3)).bind fun bt220 => (if x4 < (x3.length : Int) then (laws_toDeliveryS.l0 k x0 (x3.set (x4 : Int).toNat (⟨bt220.1, bt220.2.1, bt220.2.2.1, bt220.2.2.2⟩ : S102)) (wrap64 (x4 + 1))) else (none))) else (none)) else (some x3)
def laws_toDeliveryS.f (k : Nat) (l0 : List (S182)) : Option ((List (S102))) := if 0 ≤ (l0.length : Int) then (if ((l0.length : Int) : Int).toNat ≤ 5864062014805 then (laws_toDeliveryS.l0 k l0 (List.replicate ((l0.length : Int) : Int).toNat z102) 0) else (none)) else (none)
theorem laws_toDeliveryS.mono_l : ∀ k, (∀ y0 y1 y2, LeO (laws_toDeliveryS.l0 k y0 y1 y2) (laws_toDeliveryS.l0 (k + 1) y0 y1 y2))
 | 0 => fun _ _ _ r h => by simp [laws_toDeliveryS.l0] at h
 | k + 1 => by
  have ih0 := laws_toDeliveryS.mono_l k
  ·intro y0 y1 y2
   unfold laws_toDeliveryS.l0
   repeat' first
   | (with_reducible exact ih0 _ _ _)
   | (with_reducible exact laws_toDelivery.mono _ _ _ _ _)
   | (with_reducible exact LeO.refl _)
   | (with_reducible exact LeO.none _)
   | (with_reducible refine LeO.ite ?_ ?_)
   | (with_reducible refine LeO.bind ?_ (fun _ => ?_))
   | exact ih0 _ _ _
   | exact laws_toDelivery.mono _ _ _ _ _
   | exact LeO.none _
   | refine LeO.ite ?_ ?_
   | refine LeO.bind ?_ (fun _ => ?_)
theorem laws_toDeliveryS.mono : ∀ a0 k, LeO (laws_toDeliveryS.f k a0) (laws_toDeliveryS.f (k + 1) a0) := by
 intro a0 k
 have ih0 := laws_toDeliveryS.mono_l k
 unfold laws_toDeliveryS.f
 repeat' first
   | (with_reducible exact ih0 _ _ _)
   | (with_reducible exact laws_toDelivery.mono _ _ _ _ _)
   | (with_reducible exact LeO.refl _)
   | (with_reducible exact LeO.none _)
   | (with_reducible refine LeO.ite ?_ ?_)
   | (with_reducible refine LeO.bind ?_ (fun _ => ?_))
   | exact ih0 _ _ _
   | exact laws_toDelivery.mono _ _ _ _ _
   | exact LeO.none _
   | refine LeO.ite ?_ ?_
   | refine LeO.bind ?_ (fun _ => ?_)
set_option maxHeartbeats 8000000 in
set_option maxRecDepth 100000 in
theorem laws_toDeliveryS.calls (k : Nat) (A0 : Option Addr) (c0 : Nat) (l0 : List (S182)) (r : List (S102)) (w : World) (hr0 : Kd.C k182 w A0 l0.length l0) (hc0 : l0.length ≤ c0) (h : laws_toDeliveryS.f k l0 = some r) :
  Calls Try.prog 141 #[.slice A0 l0.length c0] w fun e w' => ∃ v0_ : Value, e = .returned (v0_) ∧ Kd.S k102 102 w' w.heap.size (fun _ => True) v0_ r ∧ Below w.heap.size w w' := by
 have hu182 := Try.underlying182
 have hu102 := Try.underlying102
 have HR0 := Am_ hr0
 have HC0 := Am_ hc0
 clear hr0 hc0
 have HB := Am_ (Below.refl w.heap.size w)
 have H : (if 0 ≤ (l0.length : Int) then (if ((l0.length : Int) : Int).toNat ≤ 5864062014805 then (laws_toDeliveryS.l0 k l0 (List.replicate ((l0.length : Int) : Int).toNat z102) 0) else (none)) else (none)) = some r := h
 clear h
 by_cases c2 : 0 ≤ (l0.length : Int)
 ·rw [if_pos c2] at H
  have c2b0 := eq_true c2
  have c2b1 : decide (0 ≤ (l0.length : Int)) = true := decide_eq_true c2
  clear c2
  by_cases c3 : ((l0.length : Int) : Int).toNat ≤ 5864062014805
  ·rw [if_pos c3] at H
   have c3b0 := eq_true c3
   have c3b1 : decide (((l0.length : Int) : Int).toNat ≤ 5864062014805) = true := decide_eq_true c3
   clear c3
   obtain ⟨y216, hy216⟩ : ∃ y_ : List (S102), y_ = (List.replicate ((l0.length : Int) : Int).toNat z102) := ⟨_, rfl⟩
   replace H : (laws_toDeliveryS.l0 k l0 y216 0) = some r := by first | (rw [hy216]; with_reducible exact H) | (have H2_ := (Option.bind_some _ _).symm.trans H; rw [hy216]; with_reducible exact H2_) | (have H2_ := (Option.bind_some _ _).symm.trans H; with_reducible exact H2_) | with_reducible exact H | (rw [hy216]; exact H) | exact H
   have Ny216 := Am_ hy216
   clear hy216
   have H' := Am_ H
   clear H
   go_enter Try.func141, Try.ntmps141
   go_wp2_with (first | ((with_reducible refine gate_dst (N := 7) rfl ?_); refine Kd.S_make k102 _ 102 rfl (N := 7) rfl 95 _ _ rfl (l0.length : Int) rfl rfl Try.underlying95 (.agg #[(.int .i64 0), (.int .i64 0), (.int .i64 0), (.slice none 0 0)]) 48 info102 rfl (by decide) (by omega) z102 (ok := fun _ => True) (okp := fun _ => True) (k102_mkM _ _ _ z102 (Kd.R_nil _ _ _ _ _)) (fun _ hk => hk) trivial (of_decide_eq_true (by first | (with_reducible assumption) | assumption)) (Nat.le_trans (Nat.mul_le_mul_right _ (of_decide_eq_true (by first | (with_reducible assumption) | assumption) : (l0.length : Int).toNat ≤ 5864062014805)) (by omega)) (Below.refl _ _) (Nat.le_refl _) ?_; intro v217 w4 ho5 hb hg_ hnew_; clear hg_ hnew_; (first | rw [← Ny216.1] at ho5 | (simp only [Int.reduceToNat] at ho5; rw [← Ny216.1] at ho5)); have n0_ := Am_ (Kd.S_lower ho5 (bZ_ (by repeat (first | (with_reducible first | exact HB.1 | apply bA_ | apply bN_ | apply bD_) | exact HB.1)))); have n1_ := Am_ (bT_ (by repeat (first | (with_reducible first | exact HB.1 | apply bA_ | apply bN_ | apply bD_) | exact HB.1)) hb); clear HB; have HO218 := n0_; have HB := n1_; clear n0_ n1_ hb ho5))
   go_loopg [4] k (fun kq v4 w' => ∃ (x3_1 : List (S102)) (x4_1 : Int), v4 = .int .i64 x4_1 ∧ Aside0 (laws_toDeliveryS.l0 kq l0 x3_1 x4_1 = some r) ∧ Aside0 (kq ≤ k) ∧ Aside0 (Kd.S k102 102 w' w.heap.size (fun _ => True) v217 x3_1) ∧ Aside0 (Below w.heap.size w w'))
   case atStart => exact ⟨(y216), (0), (by first | rfl | (simp; done) | (simp [*]; done)), H', ⟨Nat.le_refl _⟩, ⟨by (with_reducible repeat (first | apply Kd.S_alloc | apply Kd.S_drewN | apply Kd.S_drew)); exact HO218.1⟩, ⟨by repeat (first | (with_reducible first | exact HB.1 | apply bA_ | apply bN_ | apply bD_) | exact HB.1)⟩⟩
   case round =>
    clear H'
    try clear c1
    try clear c2
    try clear c2b0
    try clear c2b1
    try clear p2
    try clear c3
    try clear c3b0
    try clear c3b1
    obtain ⟨x3_1, x4_1, rfl, HA, HK1, HO_3, HB⟩ := hrel
    cases gk with
    | zero => exact absurd HA.1 (by simp [laws_toDeliveryS.l0])
    | succ k1 =>
     have H := HA.1
     clear HA
     simp only [laws_toDeliveryS.l0] at H
     by_cases c6 : x4_1 < (l0.length : Int)
     ·rw [if_pos c6] at H
      have c6b0 : decide (x4_1 < (l0.length : Int)) = true := decide_eq_true c6
      clear c6
      by_cases c7 : 0 ≤ x4_1
      ·rw [if_pos c7] at H
       have c7b0 : decide (0 ≤ x4_1) = true := decide_eq_true c7
       clear c7
       replace H := Option.bind_eq_some_iff.mp H
       obtain ⟨⟨t220, t221, t222, t223⟩, A80, H⟩ := H
       replace H : (if x4_1 < (x3_1.length : Int) then (laws_toDeliveryS.l0 k1 l0 (x3_1.set (x4_1 : Int).toNat (⟨t220, t221, t222, t223⟩ : S102)) (wrap64 (x4_1 + 1))) else (none)) = some r := H
       have A8 := Am_ A80
       clear A80
       by_cases c9 : x4_1 < (x3_1.length : Int)
       ·rw [if_pos c9] at H
        have c9b0 : decide (x4_1 < (x3_1.length : Int)) = true := decide_eq_true c9
        clear c9
        obtain ⟨y226, hy226⟩ : ∃ y_ : List (S102), y_ = (x3_1.set (x4_1 : Int).toNat (⟨t220, t221, t222, t223⟩ : S102)) := ⟨_, rfl⟩
        replace H : (laws_toDeliveryS.l0 k1 l0 y226 (wrap64 (x4_1 + 1))) = some r := by first | (rw [hy226]; with_reducible exact H) | (have H2_ := (Option.bind_some _ _).symm.trans H; rw [hy226]; with_reducible exact H2_) | (have H2_ := (Option.bind_some _ _).symm.trans H; with_reducible exact H2_) | with_reducible exact H | (rw [hy226]; exact H) | exact H
        have Ny226 := Am_ hy226
        clear hy226
        have H' := Am_ H
        clear H
        have p219 : 0 ≤ (x4_1 : Int) := of_decide_eq_true (by first | (with_reducible assumption) | assumption)
        have q219 : x4_1 < (l0.length : Int) := of_decide_eq_true (by first | (with_reducible assumption) | assumption)
        obtain ⟨ad219, A219_3, c219_3, e219, hx219_0, hx219_1, hx219_2, hx219_3, hl219_3, hi219_3⟩ := at_T182 HR0.1 x4_1 p219 q219
        cases e219
        replace hx219_0 := (HB.1.cell (World.block_lt_of_cell? w _ hx219_0)).trans hx219_0
        replace hx219_1 := (HB.1.cell (World.block_lt_of_cell? w _ hx219_1)).trans hx219_1
        replace hx219_2 := (HB.1.cell (World.block_lt_of_cell? w _ hx219_2)).trans hx219_2
        replace hx219_3 := (HB.1.cell (World.block_lt_of_cell? w _ hx219_3)).trans hx219_3
        have HR219_3 := Am_ hi219_3
        have HC219_3 := Am_ hl219_3
        clear hi219_3 hl219_3
        replace p219 := eq_true p219
        replace q219 := eq_true q219
        go_wp2_with (first | ((with_reducible refine gate_callee (f := 165) rfl ?_); refine goesL_ (some 20) rfl rfl Try.func165 (by kernel_rfl) rfl #[.agg #[.int .i64 ((rd_T182 l0 x4_1).f0), .int .i64 ((rd_T182 l0 x4_1).f1), .int .i64 ((rd_T182 l0 x4_1).f2), .slice A219_3 ((rd_T182 l0 x4_1).f3).length c219_3]] rfl (by (try simp only [List.map_toArray, List.map_cons, List.map_nil]); first | done | rfl | (simp only [List.length_drop, List.length_take]; rfl)) ?_; (with_reducible refine (laws_toDelivery.calls k1 ((rd_T182 l0 x4_1).f0) ((rd_T182 l0 x4_1).f1) ((rd_T182 l0 x4_1).f2) _ _ ((rd_T182 l0 x4_1).f3) t220 t221 t222 t223 _ ?side1 ?side2 A8.1).mono ?_); (case side1 => repeat (first | exact (Kd.C_below HR219_3.1 HB.1) | (with_reducible refine Kd.C_alloc ?_ _) | (with_reducible refine Kd.C_drewN ?_ _) | (with_reducible refine Kd.C_drew ?_))); (case side2 => exact HC219_3.1); rintro e w11 ⟨v224, rfl, ho0, hb⟩; refine ⟨_, rfl, ?_⟩; have n0_ := Am_ (Kd.S_elder' (by (with_reducible repeat (first | apply Kd.S_alloc | apply Kd.S_drewN | apply Kd.S_drew)); exact HO_3.1) (Kd.R_base ho0) hb); have n1_ := Am_ (Kd.R_lower ho0 (bZ_ (by repeat (first | (with_reducible first | exact HB.1 | apply bA_ | apply bN_ | apply bD_) | exact HB.1)))); have n2_ := Am_ (bT_ (by repeat (first | (with_reducible first | exact HB.1 | apply bA_ | apply bN_ | apply bD_) | exact HB.1)) hb); clear HO_3 HB; have HO_3 := n0_; have HO225 := n1_; have HB := n2_; clear n0_ n1_ n2_; (try clear hb); (try clear hb2); (try clear hk); (try clear hi); (try clear ho0); have p10 : 0 ≤ (x4_1 : Int) := of_decide_eq_true (by first | (with_reducible assumption) | assumption); have q10 : (x4_1 : Int) < ((x3_1.length : Int) : Int) := of_decide_eq_true (by first | (with_reducible assumption) | assumption); obtain ⟨go10, co10, eo10, gb10, gl10, cl10, HG10⟩ := Kd.S_form HO_3.1 (by omega); (first | cases eo10 | (injection eo10 with ea_ en_ ec_; (first | subst ea_ | (injection ea_ with ea_; subst ea_)); subst ec_; clear en_)); have GB10 := Am_ gb10; have GG10 := Am_ HG10; clear gb10 gl10 HG10; obtain ⟨_, ce10, hcl10, hM10, hcc10, hfr10, _, _⟩ := Kd.S_elem HO_3.1 z102 (x4_1 : Int) p10 q10; obtain ⟨ve10_3, rfl, ge10_3⟩ := k102_openM hM10; have hx10_0 : w11.cell? ⟨go10, (x4_1 : Int).toNat * 4, none⟩ = some (.int .i64 ((rd_T102 x3_1 x4_1).f0)) := hcc10 0 _ rfl; have hx10_1 : w11.cell? ⟨go10, (x4_1 : Int).toNat * 4 + 1, none⟩ = some (.int .i64 ((rd_T102 x3_1 x4_1).f1)) := hcc10 1 _ rfl; have hx10_2 : w11.cell? ⟨go10, (x4_1 : Int).toNat * 4 + 2, none⟩ = some (.int .i64 ((rd_T102 x3_1 x4_1).f2)) := hcc10 2 _ rfl; have hx10_3 : w11.cell? ⟨go10, (x4_1 : Int).toNat * 4 + 3, none⟩ = some (ve10_3) := hcc10 3 _ rfl; have hf10_0 : w11.frozen? ⟨go10, (x4_1 : Int).toNat * 4, none⟩ = false := hfr10 0; have hf10_1 : w11.frozen? ⟨go10, (x4_1 : Int).toNat * 4 + 1, none⟩ = false := hfr10 1; have hf10_2 : w11.frozen? ⟨go10, (x4_1 : Int).toNat * 4 + 2, none⟩ = false := hfr10 2; have hf10_3 : w11.frozen? ⟨go10, (x4_1 : Int).toNat * 4 + 3, none⟩ = false := hfr10 3; clear hcl10 hcc10 hfr10 hM10; replace p10 := eq_true p10; replace q10 := eq_true q10; have n_ := Am_ (Kd.S_mono (ok' := (fun k_ => some k_ ≠ (v224 : Value).ownBlock)) HO_3.1 (fun k_ hk => hk.2)); clear HO_3; have HO_3 := n_; clear n_; have HX12 := Am_ (show Kd.S k102 102 w11 w.heap.size (fun k_ => ((fun _ => True)) k_ ∧ ¬ ((fun k_ => some k_ = (v224 : Value).ownBlock)) k_) (.slice (some ⟨go10, 0, none⟩) x3_1.length co10) x3_1 from (by (with_reducible repeat (first | apply Kd.S_alloc | apply Kd.S_drewN | apply Kd.S_drew)); exact Kd.S_mono HO_3.1 (fun k_ hk => ⟨trivial, fun e_ => hk e_⟩))); obtain ⟨oki12, ce12, hcl12, hM12, hcc12, hfr12, hoki12, hH12⟩ := Kd.S_elem HX12.out z102 (x4_1 : Int) (of_decide_eq_true (by first | (with_reducible assumption) | assumption)) (by have h_ : (x4_1 : Int) < ((x3_1.length : Int) : Int) := of_decide_eq_true (by first | (with_reducible assumption) | assumption); first | exact h_ | (have e_ := (Kd.S_reads' HO_3.1).1; omega) | simpa using h_); obtain ⟨ve12_3, rfl, ge12_3⟩ := k102_openM hM12; have HP12 := Kd.S_seg hH12 (of_decide_eq_true (by first | (with_reducible assumption) | assumption)) (by have h_ : (x4_1 : Int) < ((x3_1.length : Int) : Int) := of_decide_eq_true (by first | (with_reducible assumption) | assumption); first | exact h_ | (have e_ := (Kd.S_reads' HO_3.1).1; omega) | simpa using h_) (seg := [.int .i64 t220, .int .i64 t221, .int .i64 t222, v224]) (j := 0) (show 4 ≤ 4 from by decide) (x' := (⟨t220, t221, t222, t223⟩ : S102)) (k102_mkM _ _ _ (⟨t220, t221, t222, t223⟩ : S102) (Kd.R_mono (Kd.R_tight rfl (Kd.R_mono (ok' := fun k_ => ((fun _ => True)) k_ ∧ k_ ≠ go10) (Kd.R_apart' (HO225.1) (Kd.S_typed HO_3.1) (by decide)) (fun k_ hk => ⟨trivial, fun e_ => (hk.2) (by rw [e_]; rfl)⟩))) (fun _ h_ => Or.inr (h_)))) (fun _ hk => hk) (fun k_ hk_ => ((Kd.R_mono (ok' := fun k_ => ((fun _ => True)) k_ ∧ k_ ≠ go10) (Kd.R_apart' (HO225.1) (Kd.S_typed HO_3.1) (by decide)) (fun k_ hk => ⟨trivial, fun e_ => (hk.2) (by rw [e_]; rfl)⟩))).1 k_ hk_.symm); have hx12_0 := hcc12 0 _ rfl; (try simp only [show (k102).sz = 4 from rfl, Nat.mul_one, Nat.add_zero] at hx12_0); have hf12_0 := hfr12 0; (try simp only [show (k102).sz = 4 from rfl, Nat.mul_one, Nat.add_zero] at hf12_0); have hx12_1 := hcc12 1 _ rfl; (try simp only [show (k102).sz = 4 from rfl, Nat.mul_one, Nat.add_zero] at hx12_1); have hf12_1 := hfr12 1; (try simp only [show (k102).sz = 4 from rfl, Nat.mul_one, Nat.add_zero] at hf12_1); have hx12_2 := hcc12 2 _ rfl; (try simp only [show (k102).sz = 4 from rfl, Nat.mul_one, Nat.add_zero] at hx12_2); have hf12_2 := hfr12 2; (try simp only [show (k102).sz = 4 from rfl, Nat.mul_one, Nat.add_zero] at hf12_2); have hx12_3 := hcc12 3 _ rfl; (try simp only [show (k102).sz = 4 from rfl, Nat.mul_one, Nat.add_zero] at hx12_3); have hf12_3 := hfr12 3; (try simp only [show (k102).sz = 4 from rfl, Nat.mul_one, Nat.add_zero] at hf12_3); clear hcl12 hcc12 hfr12 hM12 hoki12 hH12) | ((with_reducible refine gate_store (t := 102) (p := 21) rfl ?_); refine store_event (t := 102) (p := 21) (v := ?vo_w13) (w1 := ((((w11.setCell ⟨go10, (x4_1 : Int).toNat * 4, none⟩ (.int .i64 t220)).setCell ⟨go10, (x4_1 : Int).toNat * 4 + 1, none⟩ (.int .i64 t221)).setCell ⟨go10, (x4_1 : Int).toNat * 4 + 2, none⟩ (.int .i64 t222)).setCell ⟨go10, (x4_1 : Int).toNat * 4 + 3, none⟩ (v224))) ?hg ?ho ?hn ?hr ?_; (case ho => rfl); (case hg => rfl); (case hn => rfl); (case hr => first | (go_simp; done) | (go_simp; rfl) | (obtain ⟨_, _, _, hsh0_⟩ := (show ∃ A n c, v224 = Value.slice A n c from by first | exact Go.Proofs.Ytlkofdedkfmaeaa.X.R_shape HO218.1 | exact Go.Proofs.Ytlkofdedkfmaeaa.X.R_shape (Kd.S_R HO218.1) | exact Go.Proofs.Ytlkofdedkfmaeaa.X.R_shape HO225.1 | exact Go.Proofs.Ytlkofdedkfmaeaa.X.R_shape (Kd.S_R HO225.1)); cases hsh0_; first | (go_simp; done) | (go_simp; rfl))); intro w13 hw; have hg : w11.grownBy w13 (some go10) := (by rw [hw]; exact HP12.2); have hp_ : Kd.S k102 102 w13 w.heap.size (fun _ => True) (.slice (some ⟨go10, 0, none⟩) x3_1.length co10) y226 := (by rw [hw, Ny226.1]; exact HP12.1); clear HP12; have n0_ := Am_ (hp_); have n1_ := Am_ ((by rw [hw]; exact bS_ (bS_ (bS_ (bS_ (HB.1) GB10.out) GB10.out) GB10.out) GB10.out : Below w.heap.size w w13)); clear HO_3 HB HO225; have HO_3 := n0_; have HB := n1_; clear n0_ n1_ hg hw hp_))
        go_roundg k1
        case measure => have := HK1.1; omega
        case rel => exact ⟨(y226), (wrap64 (x4_1 + 1)), (by first | rfl | (simp; done) | (simp [*]; done)), H', ⟨by have := HK1.1; omega⟩, ⟨by (with_reducible repeat (first | apply Kd.S_alloc | apply Kd.S_drewN | apply Kd.S_drew)); exact HO_3.1⟩, ⟨by repeat (first | (with_reducible first | exact HB.1 | apply bA_ | apply bN_ | apply bD_) | exact HB.1)⟩⟩
       ·rw [if_neg c9] at H
        exact absurd H (by simp)
      ·rw [if_neg c7] at H
       exact absurd H (by simp)
     ·rw [if_neg c6] at H
      have c6b0 : decide (x4_1 < (l0.length : Int)) = false := decide_eq_false c6
      clear c6
      obtain rfl := Option.some.inj H
      go_wp2
      go_ret
      exact ⟨_, by first | rfl | (simp [errW_none, errW_some] <;> rfl) | (simp [*, errW_none, errW_some] <;> rfl), by (with_reducible repeat (first | apply Kd.S_alloc | apply Kd.S_drewN | apply Kd.S_drew)); exact HO_3.1, by repeat (first | (with_reducible first | exact HB.1 | apply bA_ | apply bN_ | apply bD_) | exact HB.1)⟩
  ·rw [if_neg c3] at H
   exact absurd H (by simp)
 ·rw [if_neg c2] at H
  exact absurd H (by simp)

/-! ### laws_toAirStation: function 101 -/
def laws_toAirStation.f (k : Nat) (l0_0 : List (S200)) (a0_1 : Int) (a0_2 : Bool) (a0_3 : Int) (a0_4 : Int) (a0_5 : Int) (l0_6 : List Int) (a0_7 : Bool) (a0_8 : Int) (a0_9 : Int) (a0_10 : Int) (a0_11 : Int) (a0_12 : Int) (a0_13 : Int) (a0_14 : Int) (a0_15 : Int) (a0_16 : Int) (l0_17 : List (S128)) (a0_18 : Int) (a0_19 : Int) (l0_20 : List (S187)) (l0_21 : List (S182)) : Option ((List (S173)) × Int × Bool × Int × Int × Int × List Int × Bool × Int × Int × Int × Int × Int × Int × Int × Int × Int × (List (S88)) × Int × Int × (List (S141)) × (List (S102))) := (laws_toTransmitQueue.f k l0_0 a0_1).bind fun bt230 => ((laws_toAirFrame.f k a0_3 a0_4 a0_5 l0_6 a0_7).bind fun bt234 => ((laws_toBackoff.f a0_8 a0_9 a0_10 a0_11 a0_12 a0_13 a0_14 a0_15 a0_16).bind fun bt241 => ((laws_toAirFrameS.f k l0_17).bind fun t250 => ((laws_toSeenFrameS.f k l0_20).bind fun t253 => ((laws_toDeliveryS.f k l0_21).bind fun t256 => (some (bt230.1, bt230.2, a0_2, bt234.1, bt234.2.1, bt234.2.2.1, bt234.2.2.2.1, bt234.2.2.2.2, bt241.1, bt241.2.1, bt241.2.2.1, bt241.2.2.2.1, bt241.2.2.2.2.1, bt241.2.2.2.2.2.1, bt241.2.2.2.2.2.2.1, bt241.2.2.2.2.2.2.2.1, bt241.2.2.2.2.2.2.2.2, t250, a0_18, a0_19, t253, t256)))))))
theorem laws_toAirStation.mono : ∀ a0 a1 a2 a3 a4 a5 a6 a7 a8 a9 a10 a11 a12 a13 a14 a15 a16 a17 a18 a19 a20 a21 k, LeO (laws_toAirStation.f k a0 a1 a2 a3 a4 a5 a6 a7 a8 a9 a10 a11 a12 a13 a14 a15 a16 a17 a18 a19 a20 a21) (laws_toAirStation.f (k + 1) a0 a1 a2 a3 a4 a5 a6 a7 a8 a9 a10 a11 a12 a13 a14 a15 a16 a17 a18 a19 a20 a21) := by
 intro a0 a1 a2 a3 a4 a5 a6 a7 a8 a9 a10 a11 a12 a13 a14 a15 a16 a17 a18 a19 a20 a21 k
 unfold laws_toAirStation.f
 repeat' first
   | (with_reducible exact laws_toAirFrame.mono _ _ _ _ _ _)
   | (with_reducible exact laws_toAirFrameS.mono _ _)
   | (with_reducible exact laws_toDeliveryS.mono _ _)
   | (with_reducible exact laws_toSeenFrameS.mono _ _)
   | (with_reducible exact laws_toTransmitQueue.mono _ _ _)
   | (with_reducible exact LeO.refl _)
   | (with_reducible exact LeO.none _)
   | (with_reducible refine LeO.ite ?_ ?_)
   | (with_reducible refine LeO.bind ?_ (fun _ => ?_))
   | exact laws_toAirFrame.mono _ _ _ _ _ _
   | exact laws_toAirFrameS.mono _ _
   | exact laws_toDeliveryS.mono _ _
   | exact laws_toSeenFrameS.mono _ _
   | exact laws_toTransmitQueue.mono _ _ _
   | exact LeO.none _
   | refine LeO.ite ?_ ?_
   | refine LeO.bind ?_ (fun _ => ?_)
set_option maxHeartbeats 8000000 in
set_option maxRecDepth 100000 in
theorem laws_toAirStation.calls (k : Nat) (A0_0 : Option Addr) (c0_0 : Nat) (l0_0 : List (S200)) (a0_1 : Int) (a0_2 : Bool) (a0_3 : Int) (a0_4 : Int) (a0_5 : Int) (A0_6 : Option Addr) (c0_6 : Nat) (l0_6 : List Int) (a0_7 : Bool) (a0_8 : Int) (a0_9 : Int) (a0_10 : Int) (a0_11 : Int) (a0_12 : Int) (a0_13 : Int) (a0_14 : Int) (a0_15 : Int) (a0_16 : Int) (A0_17 : Option Addr) (c0_17 : Nat) (l0_17 : List (S128)) (a0_18 : Int) (a0_19 : Int) (A0_20 : Option Addr) (c0_20 : Nat) (l0_20 : List (S187)) (A0_21 : Option Addr) (c0_21 : Nat) (l0_21 : List (S182)) (r1 : List (S173)) (r2 : Int) (r3 : Bool) (r4 : Int) (r5 : Int) (r6 : Int) (r7 : List Int) (r8 : Bool) (r9 : Int) (r10 : Int) (r11 : Int) (r12 : Int) (r13 : Int) (r14 : Int) (r15 : Int) (r16 : Int) (r17 : Int) (r18 : List (S88)) (r19 : Int) (r20 : Int) (r21 : List (S141)) (r22 : List (S102)) (w : World) (hr0_0 : Kd.C k200 w A0_0 l0_0.length l0_0) (hc0_0 : l0_0.length ≤ c0_0) (hr0_6 : Kd.C (Kd.int .u8) w A0_6 l0_6.length l0_6) (hc0_6 : l0_6.length ≤ c0_6) (hr0_17 : Kd.C k128 w A0_17 l0_17.length l0_17) (hc0_17 : l0_17.length ≤ c0_17) (hr0_20 : Kd.C k187 w A0_20 l0_20.length l0_20) (hc0_20 : l0_20.length ≤ c0_20) (hr0_21 : Kd.C k182 w A0_21 l0_21.length l0_21) (hc0_21 : l0_21.length ≤ c0_21) (h : laws_toAirStation.f k l0_0 a0_1 a0_2 a0_3 a0_4 a0_5 l0_6 a0_7 a0_8 a0_9 a0_10 a0_11 a0_12 a0_13 a0_14 a0_15 a0_16 l0_17 a0_18 a0_19 l0_20 l0_21 = some (r1, r2, r3, r4, r5, r6, r7, r8, r9, r10, r11, r12, r13, r14, r15, r16, r17, r18, r19, r20, r21, r22)) :
  Calls Try.prog 101 #[.agg #[.slice A0_0 l0_0.length c0_0, .int .i64 a0_1, .bool a0_2, .int .i64 a0_3, .int .i64 a0_4, .int .i64 a0_5, .slice A0_6 l0_6.length c0_6, .bool a0_7, .int .i64 a0_8, .int .i64 a0_9, .int .i64 a0_10, .int .i64 a0_11, .int .i64 a0_12, .int .i64 a0_13, .int .i64 a0_14, .int .i64 a0_15, .int .i64 a0_16, .slice A0_17 l0_17.length c0_17, .int .i64 a0_18, .int .i64 a0_19, .slice A0_20 l0_20.length c0_20, .slice A0_21 l0_21.length c0_21]] w fun e w' => ∃ v0_ v6_ v17_ v20_ v21_ : Value, e = .returned (.agg #[v0_, .int .i64 r2, .bool r3, .int .i64 r4, .int .i64 r5, .int .i64 r6, v6_, .bool r8, .int .i64 r9, .int .i64 r10, .int .i64 r11, .int .i64 r12, .int .i64 r13, .int .i64 r14, .int .i64 r15, .int .i64 r16, .int .i64 r17, v17_, .int .i64 r19, .int .i64 r20, v20_, v21_]) ∧ Kd.S k173 173 w' w.heap.size (fun k_ => some k_ ≠ (v6_ : Value).ownBlock) v0_ r1 ∧ Kd.R (Kd.int .u8) 5 w' w.heap.size (fun _ => True) v6_ r7 ∧ Kd.S k88 88 w' w.heap.size (fun k_ => some k_ ≠ (v6_ : Value).ownBlock) v17_ r18 ∧ Kd.R k141 141 w' w.heap.size (fun _ => True) v20_ r21 ∧ Kd.S k102 102 w' w.heap.size (fun k_ => some k_ ≠ (v6_ : Value).ownBlock) v21_ r22 ∧ Below w.heap.size w w' := by
 have hu136 := Try.underlying136
 have hu97 := Try.underlying97
 have hu127 := Try.underlying127
 have hu85 := Try.underlying85
 have hu128 := Try.underlying128
 have hu88 := Try.underlying88
 have hu131 := Try.underlying131
 have hu92 := Try.underlying92
 have HR0_0 := Am_ hr0_0
 have HC0_0 := Am_ hc0_0
 clear hr0_0 hc0_0
 have HR0_6 := Am_ hr0_6
 have HC0_6 := Am_ hc0_6
 clear hr0_6 hc0_6
 have HR0_17 := Am_ hr0_17
 have HC0_17 := Am_ hc0_17
 clear hr0_17 hc0_17
 have HR0_20 := Am_ hr0_20
 have HC0_20 := Am_ hc0_20
 clear hr0_20 hc0_20
 have HR0_21 := Am_ hr0_21
 have HC0_21 := Am_ hc0_21
 clear hr0_21 hc0_21
 have H : ((laws_toTransmitQueue.f k l0_0 a0_1).bind fun bt230 => ((laws_toAirFrame.f k a0_3 a0_4 a0_5 l0_6 a0_7).bind fun bt234 => ((laws_toBackoff.f a0_8 a0_9 a0_10 a0_11 a0_12 a0_13 a0_14 a0_15 a0_16).bind fun bt241 => ((laws_toAirFrameS.f k l0_17).bind fun t250 => ((laws_toSeenFrameS.f k l0_20).bind fun t253 => ((laws_toDeliveryS.f k l0_21).bind fun t256 => (some (bt230.1, bt230.2, a0_2, bt234.1, bt234.2.1, bt234.2.2.1, bt234.2.2.2.1, bt234.2.2.2.2, bt241.1, bt241.2.1, bt241.2.2.1, bt241.2.2.2.1, bt241.2.2.2.2.1, bt241.2.2.2.2.2.1, bt241.2.2.2.2.2.2.1, bt241.2.2.2.2.2.2.2.1, bt241.2.2.2.2.2.2.2.2, t250, a0_18, a0_19, t253, t256)))))))) = some (r1, r2, r3, r4, r5, r6, r7, r8, r9, r10, r11, r12, r13, r14, r15, r16, r17, r18, r19, r20, r21, r22) := h
 clear h
 replace H := Option.bind_eq_some_iff.mp H
 obtain ⟨⟨t230, t233⟩, A20, H⟩ := H
 replace H : ((laws_toAirFrame.f k a0_3 a0_4 a0_5 l0_6 a0_7).bind fun bt234 => ((laws_toBackoff.f a0_8 a0_9 a0_10 a0_11 a0_12 a0_13 a0_14 a0_15 a0_16).bind fun bt241 => ((laws_toAirFrameS.f k l0_17).bind fun t250 => ((laws_toSeenFrameS.f k l0_20).bind fun t253 => ((laws_toDeliveryS.f k l0_21).bind fun t256 => (some (t230, t233, a0_2, bt234.1, bt234.2.1, bt234.2.2.1, bt234.2.2.2.1, bt234.2.2.2.2, bt241.1, bt241.2.1, bt241.2.2.1, bt241.2.2.2.1, bt241.2.2.2.2.1, bt241.2.2.2.2.2.1, bt241.2.2.2.2.2.2.1, bt241.2.2.2.2.2.2.2.1, bt241.2.2.2.2.2.2.2.2, t250, a0_18, a0_19, t253, t256))))))) = some (r1, r2, r3, r4, r5, r6, r7, r8, r9, r10, r11, r12, r13, r14, r15, r16, r17, r18, r19, r20, r21, r22) := H
 have A2 := Am_ A20
 clear A20
 replace H := Option.bind_eq_some_iff.mp H
 obtain ⟨⟨t234, t235, t236, t237, t240⟩, A30, H⟩ := H
 replace H : ((laws_toBackoff.f a0_8 a0_9 a0_10 a0_11 a0_12 a0_13 a0_14 a0_15 a0_16).bind fun bt241 => ((laws_toAirFrameS.f k l0_17).bind fun t250 => ((laws_toSeenFrameS.f k l0_20).bind fun t253 => ((laws_toDeliveryS.f k l0_21).bind fun t256 => (some (t230, t233, a0_2, t234, t235, t236, t237, t240, bt241.1, bt241.2.1, bt241.2.2.1, bt241.2.2.2.1, bt241.2.2.2.2.1, bt241.2.2.2.2.2.1, bt241.2.2.2.2.2.2.1, bt241.2.2.2.2.2.2.2.1, bt241.2.2.2.2.2.2.2.2, t250, a0_18, a0_19, t253, t256)))))) = some (r1, r2, r3, r4, r5, r6, r7, r8, r9, r10, r11, r12, r13, r14, r15, r16, r17, r18, r19, r20, r21, r22) := H
 have A3 := Am_ A30
 clear A30
 replace H := Option.bind_eq_some_iff.mp H
 obtain ⟨⟨t241, t242, t243, t244, t245, t246, t247, t248, t249⟩, A40, H⟩ := H
 replace H : ((laws_toAirFrameS.f k l0_17).bind fun t250 => ((laws_toSeenFrameS.f k l0_20).bind fun t253 => ((laws_toDeliveryS.f k l0_21).bind fun t256 => (some (t230, t233, a0_2, t234, t235, t236, t237, t240, t241, t242, t243, t244, t245, t246, t247, t248, t249, t250, a0_18, a0_19, t253, t256))))) = some (r1, r2, r3, r4, r5, r6, r7, r8, r9, r10, r11, r12, r13, r14, r15, r16, r17, r18, r19, r20, r21, r22) := H
 have A4 := Am_ A40
 clear A40
 replace H := Option.bind_eq_some_iff.mp H
 obtain ⟨t250, A50, H⟩ := H
 replace H : ((laws_toSeenFrameS.f k l0_20).bind fun t253 => ((laws_toDeliveryS.f k l0_21).bind fun t256 => (some (t230, t233, a0_2, t234, t235, t236, t237, t240, t241, t242, t243, t244, t245, t246, t247, t248, t249, t250, a0_18, a0_19, t253, t256)))) = some (r1, r2, r3, r4, r5, r6, r7, r8, r9, r10, r11, r12, r13, r14, r15, r16, r17, r18, r19, r20, r21, r22) := H
 have A5 := Am_ A50
 clear A50
 replace H := Option.bind_eq_some_iff.mp H
 obtain ⟨t253, A60, H⟩ := H
 replace H : ((laws_toDeliveryS.f k l0_21).bind fun t256 => (some (t230, t233, a0_2, t234, t235, t236, t237, t240, t241, t242, t243, t244, t245, t246, t247, t248, t249, t250, a0_18, a0_19, t253, t256))) = some (r1, r2, r3, r4, r5, r6, r7, r8, r9, r10, r11, r12, r13, r14, r15, r16, r17, r18, r19, r20, r21, r22) := H
 have A6 := Am_ A60
 clear A60
 replace H := Option.bind_eq_some_iff.mp H
 obtain ⟨t256, A70, H⟩ := H
 replace H : (some (t230, t233, a0_2, t234, t235, t236, t237, t240, t241, t242, t243, t244, t245, t246, t247, t248, t249, t250, a0_18, a0_19, t253, t256)) = some (r1, r2, r3, r4, r5, r6, r7, r8, r9, r10, r11, r12, r13, r14, r15, r16, r17, r18, r19, r20, r21, r22) := H
 have A7 := Am_ A70
 clear A70
 simp only [Option.some.injEq, Prod.mk.injEq] at H
 obtain ⟨rfl, rfl, rfl, rfl, rfl, rfl, rfl, rfl, rfl, rfl, rfl, rfl, rfl, rfl, rfl, rfl, rfl, rfl, rfl, rfl, rfl, rfl⟩ := H
 refine Go.Proofs.Ytlkofdedkfmaeaa.SL.enter 37 Try.func101 (h := ?_)
 have I := Go.Proofs.Ytlkofdedkfmaeaa.SL.Inv.start w
 refine Go.Proofs.Ytlkofdedkfmaeaa.SL.sg ?_
 refine Go.Proofs.Ytlkofdedkfmaeaa.SL.ev_bx I (h := ?_); intro g1 y1 I
 refine Go.Proofs.Ytlkofdedkfmaeaa.SL.ev_al I (hi := info97) (h := ?_); intro g2 y2 I
 refine Go.Proofs.Ytlkofdedkfmaeaa.SL.nx ?_
 refine Go.Proofs.Ytlkofdedkfmaeaa.SL.sg ?_
 refine Go.Proofs.Ytlkofdedkfmaeaa.SL.ev_al I (hi := info97) (h := ?_); intro g3 y3 I
 refine Go.Proofs.Ytlkofdedkfmaeaa.SL.nx ?_
 refine Go.Proofs.Ytlkofdedkfmaeaa.SL.sg ?_
 refine Go.Proofs.Ytlkofdedkfmaeaa.SL.ev_fld 0 (hu := Try.underlying136) (h := ?_)
 refine Go.Proofs.Ytlkofdedkfmaeaa.SL.ev_ldn I 0 2 (hu := Try.underlying127) (h := ?_)
 refine Go.Proofs.Ytlkofdedkfmaeaa.SL.ev_call I (hc := laws_toTransmitQueue.calls k _ _ l0_0 a0_1 t230 t233 _ (Kd.C_below HR0_0.1 I.below) HC0_0.1 A2.1) (hf := Try.func136) (h := ?_)
 rintro e y4 ⟨v231, rfl, ho, hb⟩; obtain ⟨_, _, rfl⟩ := Kd.S_slice ho; refine ⟨_, rfl, ?_⟩; have I := Go.Proofs.Ytlkofdedkfmaeaa.SL.addS I hb ho
 refine Go.Proofs.Ytlkofdedkfmaeaa.SL.ev_fld 0 (hu := Try.underlying97) (h := ?_)
 refine Go.Proofs.Ytlkofdedkfmaeaa.SL.ev_st I 2 (h := ?_); intro y5 I
 refine Go.Proofs.Ytlkofdedkfmaeaa.SL.nx ?_
 refine Go.Proofs.Ytlkofdedkfmaeaa.SL.sg ?_
 refine Go.Proofs.Ytlkofdedkfmaeaa.SL.ev_fld 2 (hu := Try.underlying136) (h := ?_)
 refine Go.Proofs.Ytlkofdedkfmaeaa.SL.ev_ld I 0 (hu := Try.underlying4) (h := ?_)
 refine Go.Proofs.Ytlkofdedkfmaeaa.SL.ev_fld 2 (hu := Try.underlying97) (h := ?_)
 refine Go.Proofs.Ytlkofdedkfmaeaa.SL.ev_st I 2 (h := ?_); intro y6 I
 refine Go.Proofs.Ytlkofdedkfmaeaa.SL.nx ?_
 refine Go.Proofs.Ytlkofdedkfmaeaa.SL.sg ?_
 refine Go.Proofs.Ytlkofdedkfmaeaa.SL.ev_fld 3 (hu := Try.underlying136) (h := ?_)
 refine Go.Proofs.Ytlkofdedkfmaeaa.SL.ev_ldn I 0 5 (hu := Try.underlying128) (h := ?_)
 refine Go.Proofs.Ytlkofdedkfmaeaa.SL.ev_call I (hc := laws_toAirFrame.calls k a0_3 a0_4 a0_5 _ _ l0_6 a0_7 t234 t235 t236 t237 t240 _ (Kd.C_below HR0_6.1 I.below) HC0_6.1 A3.1) (hf := Try.func137) (h := ?_)
 rintro e y7 ⟨v238, rfl, ho, hb⟩; obtain ⟨_, _, rfl⟩ := Kd.R_slice ho; refine ⟨_, rfl, ?_⟩; have I := Go.Proofs.Ytlkofdedkfmaeaa.SL.addR I hb ho
 refine Go.Proofs.Ytlkofdedkfmaeaa.SL.ev_fld 3 (hu := Try.underlying97) (h := ?_)
 refine Go.Proofs.Ytlkofdedkfmaeaa.SL.ev_st I 2 (h := ?_); intro y8 I
 refine Go.Proofs.Ytlkofdedkfmaeaa.SL.nx ?_
 refine Go.Proofs.Ytlkofdedkfmaeaa.SL.sg ?_
 refine Go.Proofs.Ytlkofdedkfmaeaa.SL.ev_fld 8 (hu := Try.underlying136) (h := ?_)
 refine Go.Proofs.Ytlkofdedkfmaeaa.SL.ev_ldn I 0 9 (hu := Try.underlying131) (h := ?_)
 refine Go.Proofs.Ytlkofdedkfmaeaa.SL.ev_call I (hc := laws_toBackoff.calls a0_8 a0_9 a0_10 a0_11 a0_12 a0_13 a0_14 a0_15 a0_16 t241 t242 t243 t244 t245 t246 t247 t248 t249 _ A4.1) (hf := Try.func138) (h := ?_)
 rintro e y9 ⟨rfl, hb⟩; refine ⟨_, rfl, ?_⟩; have I := Go.Proofs.Ytlkofdedkfmaeaa.SL.Inv.grow I hb
 refine Go.Proofs.Ytlkofdedkfmaeaa.SL.ev_fld 8 (hu := Try.underlying97) (h := ?_)
 refine Go.Proofs.Ytlkofdedkfmaeaa.SL.ev_st I 2 (h := ?_); intro y10 I
 refine Go.Proofs.Ytlkofdedkfmaeaa.SL.nx ?_
 refine Go.Proofs.Ytlkofdedkfmaeaa.SL.sg ?_
 refine Go.Proofs.Ytlkofdedkfmaeaa.SL.ev_fld 17 (hu := Try.underlying136) (h := ?_)
 refine Go.Proofs.Ytlkofdedkfmaeaa.SL.ev_ld I 0 (hu := Try.underlying132) (h := ?_)
 refine Go.Proofs.Ytlkofdedkfmaeaa.SL.ev_call I (hc := laws_toAirFrameS.calls k _ _ l0_17 t250 _ (Kd.C_below HR0_17.1 I.below) HC0_17.1 A5.1) (hf := Try.func139) (h := ?_)
 rintro e y11 ⟨v251, rfl, ho, hb⟩; obtain ⟨_, _, rfl⟩ := Kd.S_slice ho; refine ⟨_, rfl, ?_⟩; have I := Go.Proofs.Ytlkofdedkfmaeaa.SL.addS I hb ho
 refine Go.Proofs.Ytlkofdedkfmaeaa.SL.ev_fld 17 (hu := Try.underlying97) (h := ?_)
 refine Go.Proofs.Ytlkofdedkfmaeaa.SL.ev_st I 2 (h := ?_); intro y12 I
 refine Go.Proofs.Ytlkofdedkfmaeaa.SL.nx ?_
 refine Go.Proofs.Ytlkofdedkfmaeaa.SL.sg ?_
 refine Go.Proofs.Ytlkofdedkfmaeaa.SL.ev_fld 18 (hu := Try.underlying136) (h := ?_)
 refine Go.Proofs.Ytlkofdedkfmaeaa.SL.ev_ld I 0 (hu := Try.underlying3) (h := ?_)
 refine Go.Proofs.Ytlkofdedkfmaeaa.SL.ev_fld 18 (hu := Try.underlying97) (h := ?_)
 refine Go.Proofs.Ytlkofdedkfmaeaa.SL.ev_st I 2 (h := ?_); intro y13 I
 refine Go.Proofs.Ytlkofdedkfmaeaa.SL.nx ?_
 refine Go.Proofs.Ytlkofdedkfmaeaa.SL.sg ?_
 refine Go.Proofs.Ytlkofdedkfmaeaa.SL.ev_fld 19 (hu := Try.underlying136) (h := ?_)
 refine Go.Proofs.Ytlkofdedkfmaeaa.SL.ev_ld I 0 (hu := Try.underlying3) (h := ?_)
 refine Go.Proofs.Ytlkofdedkfmaeaa.SL.ev_fld 19 (hu := Try.underlying97) (h := ?_)
 refine Go.Proofs.Ytlkofdedkfmaeaa.SL.ev_st I 2 (h := ?_); intro y14 I
 refine Go.Proofs.Ytlkofdedkfmaeaa.SL.nx ?_
 refine Go.Proofs.Ytlkofdedkfmaeaa.SL.sg ?_
 refine Go.Proofs.Ytlkofdedkfmaeaa.SL.ev_fld 20 (hu := Try.underlying136) (h := ?_)
 refine Go.Proofs.Ytlkofdedkfmaeaa.SL.ev_ld I 0 (hu := Try.underlying133) (h := ?_)
 refine Go.Proofs.Ytlkofdedkfmaeaa.SL.ev_call I (hc := laws_toSeenFrameS.calls k _ _ l0_20 t253 _ (Kd.C_below HR0_20.1 I.below) HC0_20.1 A6.1) (hf := Try.func140) (h := ?_)
 rintro e y15 ⟨v254, rfl, ho, hb⟩; obtain ⟨_, _, rfl⟩ := Kd.R_slice ho; refine ⟨_, rfl, ?_⟩; have I := Go.Proofs.Ytlkofdedkfmaeaa.SL.addR I hb ho
 refine Go.Proofs.Ytlkofdedkfmaeaa.SL.ev_fld 20 (hu := Try.underlying97) (h := ?_)
 refine Go.Proofs.Ytlkofdedkfmaeaa.SL.ev_st I 2 (h := ?_); intro y16 I
 refine Go.Proofs.Ytlkofdedkfmaeaa.SL.nx ?_
 refine Go.Proofs.Ytlkofdedkfmaeaa.SL.sg ?_
 refine Go.Proofs.Ytlkofdedkfmaeaa.SL.ev_fld 21 (hu := Try.underlying136) (h := ?_)
 refine Go.Proofs.Ytlkofdedkfmaeaa.SL.ev_ld I 0 (hu := Try.underlying134) (h := ?_)
 refine Go.Proofs.Ytlkofdedkfmaeaa.SL.ev_call I (hc := laws_toDeliveryS.calls k _ _ l0_21 t256 _ (Kd.C_below HR0_21.1 I.below) HC0_21.1 A7.1) (hf := Try.func141) (h := ?_)
 rintro e y17 ⟨v257, rfl, ho, hb⟩; obtain ⟨_, _, rfl⟩ := Kd.S_slice ho; refine ⟨_, rfl, ?_⟩; have I := Go.Proofs.Ytlkofdedkfmaeaa.SL.addS I hb ho
 refine Go.Proofs.Ytlkofdedkfmaeaa.SL.ev_fld 21 (hu := Try.underlying97) (h := ?_)
 refine Go.Proofs.Ytlkofdedkfmaeaa.SL.ev_st I 2 (h := ?_); intro y18 I
 refine Go.Proofs.Ytlkofdedkfmaeaa.SL.nx ?_
 refine Go.Proofs.Ytlkofdedkfmaeaa.SL.sg ?_
 refine Go.Proofs.Ytlkofdedkfmaeaa.SL.ev_ldn I 2 22 (hu := Try.underlying97) (h := ?_)
 refine Go.Proofs.Ytlkofdedkfmaeaa.SL.ev_st I 1 (h := ?_); intro y19 I
 refine Go.Proofs.Ytlkofdedkfmaeaa.SL.nx ?_
 refine wp_ret ?_
 refine Go.Proofs.Ytlkofdedkfmaeaa.SL.leave I 1 (hu := Try.underlying97) (h := ?_)
 exact ⟨_, _, _, _, _, rfl, Go.Proofs.Ytlkofdedkfmaeaa.SL.outS I 3 4, Go.Proofs.Ytlkofdedkfmaeaa.SL.outR I 4, Go.Proofs.Ytlkofdedkfmaeaa.SL.outS I 5 4, Go.Proofs.Ytlkofdedkfmaeaa.SL.outR I 6, Go.Proofs.Ytlkofdedkfmaeaa.SL.outS I 7 4, I.below⟩

/-! ### laws_toAirStationS: function 66 -/
def laws_toAirStationS.l0 : Nat → List (S136) → List (S97) → Int → Option ((List (S97)))
 | 0, _, _, _ => none
 | k + 1, x0, x3, x4 => if x4 < (x0.length : Int) then (if 0 ≤ x4 then ((laws_toAirStation.f k ((rd_T136 x0 x4).f0.f0) ((rd_T136 x0 x4).f0.f1) ((rd_T136 x0 x4).f1) ((rd_T136 x0 x4).f2.f0) ((rd_T136 x0 x4).f2.f1) ((rd_T136 x0 x4).f2.f2) ((rd_T136 x0 x4).f2.f3) ((rd_T136 x0 x4).f2.f4) ((rd_T136 x0 x4).f3.f0.f0) ((rd_T136 x0 x4).f3.f0.f1) ((rd_T136 x0 x4).f3.f0.f2) ((rd_T136 x0 x4).f3.f0.f3) ((rd_T136 x0 x4).f3.f1) ((rd_T136 x0 x4).f3.f2) ((rd_T136 x0 x4).f3.f3) ((rd_T136 x0 x4).f3.f4) ((rd_T136 x0 x4).f3.f5) ((rd_T136 x0 x4).f4) ((rd_T136 x0 x4).f5) ((rd_T136 x0 x4).f6) ((rd_T136 x0 x4).f7) ((rd_T136 x0 x4).f8)).bind fun bt263 => (if x4 < (x3.length : Int) then (laws_toAirStationS.l0 k x0 (x3.set (x4 : Int).toNat (⟨(⟨bt263.1, bt263.2.1⟩ : S85), bt263.2.2.1, (⟨bt263.2.2.2.1, bt263.2.2.2.2.1, bt263.2.2.2.2.2.1, bt263.2.2.2.2.2.2.1, bt263.2.2.2.2.2.2.2.1⟩ : S88), (⟨(⟨bt263.2.2.2.2.2.2.2.2.1, bt263.2.2.2.2.2.2.2.2.2.1, bt263.2.2.2.2.2.2.2.2.2.2.1, bt263.2.2.2.2.2.2.2.2.2.2.2.1⟩ : S90), bt263.2.2.2.2.2.2.2.2.2.2.2.2.1, bt263.2.2.2.2.2.2.2.2.2.2.2.2.2.1, bt263.2.2.2.2.2.2.2.2.2.2.2.2.2.2.1, bt263.2.2.2.2.2.2.2.2.2.2.2.2.2.2.2.1, bt263.2.2.2.2.2.2.2.2.2.2.2.2.2.2.2.2.1⟩ : S92), bt263.2.2.2.2.2.2.2.2.2.2.2.2.2.2.2.2.2.1, bt263.2.2.2.2.2.2.2.2.2.2.2.2.2.2.2.2.2.2.1, bt263.2.2.2.2.2.2.2.2.2.2.2.2.2.2.2.2.2.2.2.1, bt263.2.2.2.2.2.2.2.2.2.2.2.2.2.2.2.2.2.2.2.2.1, bt263.2.2.2.2.2.2.2.2.2.2.2.2.2.2.2.2.2.2.2.2.2⟩ : S97)) (wrap64 (x4 + 1))) else (none))) else (none)) else (some x3)
def laws_toAirStationS.f (k : Nat) (l0 : List (S136)) : Option ((List (S97))) := if 0 ≤ (l0.length : Int) then (if ((l0.length : Int) : Int).toNat ≤ 1099511627776 then (laws_toAirStationS.l0 k l0 (List.replicate ((l0.length : Int) : Int).toNat z97) 0) else (none)) else (none)
theorem laws_toAirStationS.mono_l : ∀ k, (∀ y0 y1 y2, LeO (laws_toAirStationS.l0 k y0 y1 y2) (laws_toAirStationS.l0 (k + 1) y0 y1 y2))
 | 0 => fun _ _ _ r h => by simp [laws_toAirStationS.l0] at h
 | k + 1 => by
  have ih0 := laws_toAirStationS.mono_l k
  ·intro y0 y1 y2
   unfold laws_toAirStationS.l0
   repeat' first
   | (with_reducible exact ih0 _ _ _)
   | (with_reducible exact laws_toAirStation.mono _ _ _ _ _ _ _ _ _ _ _ _ _ _ _ _ _ _ _ _ _ _ _)
   | (with_reducible exact LeO.refl _)
   | (with_reducible exact LeO.none _)
   | (with_reducible refine LeO.ite ?_ ?_)
   | (with_reducible refine LeO.bind ?_ (fun _ => ?_))
   | exact ih0 _ _ _
   | exact laws_toAirStation.mono _ _ _ _ _ _ _ _ _ _ _ _ _ _ _ _ _ _ _ _ _ _ _
   | exact LeO.none _
   | refine LeO.ite ?_ ?_
   | refine LeO.bind ?_ (fun _ => ?_)
theorem laws_toAirStationS.mono : ∀ a0 k, LeO (laws_toAirStationS.f k a0) (laws_toAirStationS.f (k + 1) a0) := by
 intro a0 k
 have ih0 := laws_toAirStationS.mono_l k
 unfold laws_toAirStationS.f
 repeat' first
   | (with_reducible exact ih0 _ _ _)
   | (with_reducible exact laws_toAirStation.mono _ _ _ _ _ _ _ _ _ _ _ _ _ _ _ _ _ _ _ _ _ _ _)
   | (with_reducible exact LeO.refl _)
   | (with_reducible exact LeO.none _)
   | (with_reducible refine LeO.ite ?_ ?_)
   | (with_reducible refine LeO.bind ?_ (fun _ => ?_))
   | exact ih0 _ _ _
   | exact laws_toAirStation.mono _ _ _ _ _ _ _ _ _ _ _ _ _ _ _ _ _ _ _ _ _ _ _
   | exact LeO.none _
   | refine LeO.ite ?_ ?_
   | refine LeO.bind ?_ (fun _ => ?_)
set_option maxHeartbeats 8000000 in
set_option maxRecDepth 100000 in
theorem laws_toAirStationS.calls (k : Nat) (A0 : Option Addr) (c0 : Nat) (l0 : List (S136)) (r : List (S97)) (w : World) (hr0 : Kd.C k136 w A0 l0.length l0) (hc0 : l0.length ≤ c0) (h : laws_toAirStationS.f k l0 = some r) :
  Calls Try.prog 66 #[.slice A0 l0.length c0] w fun e w' => ∃ v0_ : Value, e = .returned (v0_) ∧ Kd.R k97 97 w' w.heap.size (fun _ => True) v0_ r ∧ Below w.heap.size w w' := by
 have H : (if 0 ≤ (l0.length : Int) then (if ((l0.length : Int) : Int).toNat ≤ 1099511627776 then (laws_toAirStationS.l0 k l0 (List.replicate ((l0.length : Int) : Int).toNat z97) 0) else (none)) else (none)) = some r := h
 clear h
 rw [if_pos (by omega)] at H
 by_cases c3 : ((l0.length : Int) : Int).toNat ≤ 1099511627776
 rotate_left
 ·rw [if_neg c3] at H
  cases H
 rw [if_pos c3] at H
 refine Go.Proofs.Ytlkofdedkfmaeaa.SL.enter 22 Try.func66 (h := ?_)
 have I := Go.Proofs.Ytlkofdedkfmaeaa.SL.Inv.start w
 refine Go.Proofs.Ytlkofdedkfmaeaa.SL.sg ?_
 refine Go.Proofs.Ytlkofdedkfmaeaa.SL.ev_mv (h := ?_)
 refine Go.Proofs.Ytlkofdedkfmaeaa.SL.nx ?_
 refine Go.Proofs.Ytlkofdedkfmaeaa.SL.sg ?_
 refine Go.Proofs.Ytlkofdedkfmaeaa.SL.ev_mv (h := ?_)
 refine Go.Proofs.Ytlkofdedkfmaeaa.SL.ev_len (hu := Try.underlying25) (h := ?_)
 refine Go.Proofs.Ytlkofdedkfmaeaa.SL.ev_make k97 97 I z97 (ht := Try.underlying31) (hinfo := info97) (hzero := fun w b => k97_mkM _ _ _ z97 (Kd.R_nil _ _ _ _ _) (Kd.R_nil _ _ _ _ _) (Kd.R_nil _ _ _ _ _) (Kd.R_nil _ _ _ _ _) (Kd.R_nil _ _ _ _ _)) (h0 := by omega) (hl := by omega) (h := ?_)
 intro g c w1 I
 refine Go.Proofs.Ytlkofdedkfmaeaa.SL.ev_mv (h := ?_)
 refine Go.Proofs.Ytlkofdedkfmaeaa.SL.nx ?_
 refine wp_seq ?_
 refine Go.Proofs.Ytlkofdedkfmaeaa.SL.sg ?_
 refine Go.Proofs.Ytlkofdedkfmaeaa.SL.ev_mv (h := ?_)
 refine Go.Proofs.Ytlkofdedkfmaeaa.SL.nx ?_
 simp only [Int.toNat_natCast] at I H ⊢
 refine wp_block (Go.Proofs.Ytlkofdedkfmaeaa.SL.lp (I := fun n E W => ∃ (u8 u9 u10 u11 u12 u13 u14 u15 u16 u17 u18 u19 u20 u21 : Value) (ys : List S97) (x4 : Int), E = [.slice A0 l0.length c0, undef, .slice none 0 0, .slice (some ⟨g, 0, none⟩) ys.length c, .int .i64 x4, .slice A0 l0.length c0, .int .i64 (l0.length : Int), .slice (some ⟨g, 0, none⟩) ys.length c, u8, u9, u10, u11, u12, u13, u14, u15, u16, u17, u18, u19, u20, u21, undef] ∧ ys.length = l0.length ∧ laws_toAirStationS.l0 n l0 ys x4 = some r ∧ n ≤ k ∧ Go.Proofs.Ytlkofdedkfmaeaa.SL.Inv w [Go.Proofs.Ytlkofdedkfmaeaa.SL.rr k97 97 w.heap.size (.slice (some ⟨g, 0, none⟩) ys.length c) ys] W) k ⟨_, _, _, _, _, _, _, _, _, _, _, _, _, _, List.replicate l0.length z97, 0, by simp only [List.length_replicate]; rfl, by simp, H, Nat.le_refl _, by rw [List.length_replicate]; exact I⟩ ?_)
 rintro n _ W ⟨u8, u9, u10, u11, u12, u13, u14, u15, u16, u17, u18, u19, u20, u21, ys, x4, rfl, hlen, H, hk, I⟩
 cases n with
 | zero => exact absurd H (by simp [laws_toAirStationS.l0])
 | succ k1 =>
  simp only [laws_toAirStationS.l0] at H
  refine wp_seq ?_
  refine Go.Proofs.Ytlkofdedkfmaeaa.SL.sg ?_
  refine Go.Proofs.Ytlkofdedkfmaeaa.SL.ev_mv (h := ?_)
  refine Go.Proofs.Ytlkofdedkfmaeaa.SL.ev_mv (h := ?_)
  refine Go.Proofs.Ytlkofdedkfmaeaa.SL.ev_len (hu := Try.underlying25) (h := ?_)
  refine Go.Proofs.Ytlkofdedkfmaeaa.SL.ev_bin (h := ?_)
  refine Go.Proofs.Ytlkofdedkfmaeaa.SL.nx ?_
  by_cases c6 : x4 < (l0.length : Int)
  rotate_left
  ·rw [if_neg c6] at H
   obtain rfl := Option.some.inj H
   refine Go.Proofs.Ytlkofdedkfmaeaa.SL.cnd_f c6 (h := wp_exit ?_)
   refine Go.Proofs.Ytlkofdedkfmaeaa.SL.sg ?_
   refine Go.Proofs.Ytlkofdedkfmaeaa.SL.ev_mv (h := ?_)
   refine Go.Proofs.Ytlkofdedkfmaeaa.SL.ev_mv (h := ?_)
   refine Go.Proofs.Ytlkofdedkfmaeaa.SL.nx ?_
   refine wp_ret (Go.Proofs.Ytlkofdedkfmaeaa.SL.leave1 (h := ?_))
   exact ⟨_, rfl, Go.Proofs.Ytlkofdedkfmaeaa.SL.outR I 0, I.below⟩
  rw [if_pos c6] at H
  refine Go.Proofs.Ytlkofdedkfmaeaa.SL.cnd_t c6 (h := wp_skip ?_)
  by_cases c7 : 0 ≤ x4
  rotate_left
  ·rw [if_neg c7] at H
   cases H
  rw [if_pos c7] at H
  obtain ⟨⟨t0, t1, t2, t3, t4, t5, t6, t7, t8, t9, t10, t11, t12, t13, t14, t15, t16, t17, t18, t19, t20, t21⟩, A8, H⟩ := Option.bind_eq_some_iff.mp H
  dsimp only at H
  by_cases c9 : x4 < (ys.length : Int)
  rotate_left
  ·rw [if_neg c9] at H
   cases H
  rw [if_pos c9] at H
  obtain ⟨ad, A0_, c0_, A6_, c6_, A17_, c17_, A20_, c20_, A21_, c21_, rfl, hx, l0_, i0, l6_, i6, l17_, i17, l20_, i20, l21_, i21⟩ := atL_T136 hr0 x4 c7 c6
  refine wp_seq (wp_block (wp_region_lit ?_))
  refine Go.Proofs.Ytlkofdedkfmaeaa.SL.ev_mv (h := ?_)
  refine Go.Proofs.Ytlkofdedkfmaeaa.SL.ev_mv (h := ?_)
  refine Go.Proofs.Ytlkofdedkfmaeaa.SL.ev_mv (h := ?_)
  refine Go.Proofs.Ytlkofdedkfmaeaa.SL.ev_mv (h := ?_)
  refine Go.Proofs.Ytlkofdedkfmaeaa.SL.ev_ix (hu := Try.underlying25) (sz := 22) (h0 := c7) (h1 := c6) (h := ?_)
  refine Go.Proofs.Ytlkofdedkfmaeaa.SL.ev_ldc I (hu := Try.underlying136) (hc := hx) (h := ?_)
  refine Go.Proofs.Ytlkofdedkfmaeaa.SL.ev_call I (hc := laws_toAirStation.calls k1 _ _ (rd_T136 l0 x4).f0.f0 (rd_T136 l0 x4).f0.f1 (rd_T136 l0 x4).f1 (rd_T136 l0 x4).f2.f0 (rd_T136 l0 x4).f2.f1 (rd_T136 l0 x4).f2.f2 _ _ (rd_T136 l0 x4).f2.f3 (rd_T136 l0 x4).f2.f4 (rd_T136 l0 x4).f3.f0.f0 (rd_T136 l0 x4).f3.f0.f1 (rd_T136 l0 x4).f3.f0.f2 (rd_T136 l0 x4).f3.f0.f3 (rd_T136 l0 x4).f3.f1 (rd_T136 l0 x4).f3.f2 (rd_T136 l0 x4).f3.f3 (rd_T136 l0 x4).f3.f4 (rd_T136 l0 x4).f3.f5 _ _ (rd_T136 l0 x4).f4 (rd_T136 l0 x4).f5 (rd_T136 l0 x4).f6 _ _ (rd_T136 l0 x4).f7 _ _ (rd_T136 l0 x4).f8 t0 t1 t2 t3 t4 t5 t6 t7 t8 t9 t10 t11 t12 t13 t14 t15 t16 t17 t18 t19 t20 t21 _ (Kd.C_below i0 I.below) l0_ (Kd.C_below i6 I.below) l6_ (Kd.C_below i17 I.below) l17_ (Kd.C_below i20 I.below) l20_ (Kd.C_below i21 I.below) l21_ A8) (hf := Try.func101) (h := ?_)
  rintro e W2 ⟨v0, v6, v17, v20, v21, rfl, q0, q6, q17, q20, q21, hb⟩
  obtain ⟨_, _, rfl⟩ := Kd.S_slice q0
  obtain ⟨_, _, rfl⟩ := Kd.R_slice q6
  obtain ⟨_, _, rfl⟩ := Kd.S_slice q17
  obtain ⟨_, _, rfl⟩ := Kd.R_slice q20
  obtain ⟨_, _, rfl⟩ := Kd.S_slice q21
  refine ⟨_, rfl, ?_⟩
  have I := Go.Proofs.Ytlkofdedkfmaeaa.SL.addM I hb (k97_mkM _ _ (fun _ => True) (⟨(⟨t0, t1⟩ : S85), t2, (⟨t3, t4, t5, t6, t7⟩ : S88), (⟨(⟨t8, t9, t10, t11⟩ : S90), t12, t13, t14, t15, t16⟩ : S92), t17, t18, t19, t20, t21⟩ : S97) (Kd.R_mono (Kd.S_R q0) (fun _ _ => trivial)) q6 (Kd.R_mono (Kd.S_R q17) (fun _ _ => trivial)) q20 (Kd.R_mono (Kd.S_R q21) (fun _ _ => trivial)))
  refine Go.Proofs.Ytlkofdedkfmaeaa.SL.ev_ix (hu := Try.underlying31) (sz := 22) (h0 := c7) (h1 := c9) (h := ?_)
  refine Go.Proofs.Ytlkofdedkfmaeaa.SL.ev_ste I 0 [1] (⟨(⟨t0, t1⟩ : S85), t2, (⟨t3, t4, t5, t6, t7⟩ : S88), (⟨(⟨t8, t9, t10, t11⟩ : S90), t12, t13, t14, t15, t16⟩ : S92), t17, t18, t19, t20, t21⟩ : S97) (h0 := c7) (h1 := c9) (hM := fun T hT => hT 1 _ (by simp) rfl) (h := ?_)
  intro W3 I
  refine wpList_nil ?_
  refine wp_region_lit ?_
  refine Go.Proofs.Ytlkofdedkfmaeaa.SL.ev_mv (h := ?_)
  refine Go.Proofs.Ytlkofdedkfmaeaa.SL.ev_bin (h := ?_)
  refine Go.Proofs.Ytlkofdedkfmaeaa.SL.ev_mv (h := ?_)
  refine Go.Proofs.Ytlkofdedkfmaeaa.SL.nd ?_
  refine ⟨k1, _, by omega, rfl, ?_⟩
  rw [i64_w]
  exact ⟨_, _, _, _, _, _, _, _, _, _, _, _, _, _, _, _, by simp only [List.length_set]; rfl, by rw [List.length_set, hlen], H, by omega, by rw [List.length_set]; exact Go.Proofs.Ytlkofdedkfmaeaa.SL.Inv.cut I 1⟩

/-! ### laws_toAir: function 17 -/
def laws_toAir.f (k : Nat) (l0_0 : List Int) (a0_1 : Int) (a0_2 : Int) (l0_3 : List (S136)) (a0_4 : Int) (a0_5 : Int) (a0_6 : Int) : Option (List Int × Int × Int × (List (S97)) × Int × Int × Int) := (laws_toPlacement.f k l0_0 a0_1 a0_2).bind fun bt299 => ((laws_toAirStationS.f k l0_3).bind fun t304 => (some (bt299.1, bt299.2.1, bt299.2.2, t304, a0_4, a0_5, a0_6)))
theorem laws_toAir.mono : ∀ a0 a1 a2 a3 a4 a5 a6 k, LeO (laws_toAir.f k a0 a1 a2 a3 a4 a5 a6) (laws_toAir.f (k + 1) a0 a1 a2 a3 a4 a5 a6) := by
 intro a0 a1 a2 a3 a4 a5 a6 k
 unfold laws_toAir.f
 repeat' first
   | (with_reducible exact laws_toAirStationS.mono _ _)
   | (with_reducible exact laws_toPlacement.mono _ _ _ _)
   | (with_reducible exact LeO.refl _)
   | (with_reducible exact LeO.none _)
   | (with_reducible refine LeO.ite ?_ ?_)
   | (with_reducible refine LeO.bind ?_ (fun _ => ?_))
   | exact laws_toAirStationS.mono _ _
   | exact laws_toPlacement.mono _ _ _ _
   | exact LeO.none _
   | refine LeO.ite ?_ ?_
   | refine LeO.bind ?_ (fun _ => ?_)
set_option maxHeartbeats 8000000 in
set_option maxRecDepth 100000 in
theorem laws_toAir.calls (k : Nat) (A0_0 : Option Addr) (c0_0 : Nat) (l0_0 : List Int) (a0_1 : Int) (a0_2 : Int) (A0_3 : Option Addr) (c0_3 : Nat) (l0_3 : List (S136)) (a0_4 : Int) (a0_5 : Int) (a0_6 : Int) (r1 : List Int) (r2 : Int) (r3 : Int) (r4 : List (S97)) (r5 : Int) (r6 : Int) (r7 : Int) (w : World) (hr0_0 : Kd.C (Kd.int .i64) w A0_0 l0_0.length l0_0) (hc0_0 : l0_0.length ≤ c0_0) (hr0_3 : Kd.C k136 w A0_3 l0_3.length l0_3) (hc0_3 : l0_3.length ≤ c0_3) (h : laws_toAir.f k l0_0 a0_1 a0_2 l0_3 a0_4 a0_5 a0_6 = some (r1, r2, r3, r4, r5, r6, r7)) :
  Calls Try.prog 17 #[.agg #[.slice A0_0 l0_0.length c0_0, .int .i64 a0_1, .int .i64 a0_2, .slice A0_3 l0_3.length c0_3, .int .i64 a0_4, .int .i64 a0_5, .int .i64 a0_6]] w fun e w' => ∃ v0_ v3_ : Value, e = .returned (.agg #[v0_, .int .i64 r2, .int .i64 r3, v3_, .int .i64 r5, .int .i64 r6, .int .i64 r7]) ∧ Kd.R (Kd.int .i64) 3 w' w.heap.size (fun _ => True) v0_ r1 ∧ Kd.R k97 97 w' w.heap.size (fun _ => True) v3_ r4 ∧ Below w.heap.size w w' := by
 have hu27 := Try.underlying27
 have hu33 := Try.underlying33
 have hu24 := Try.underlying24
 have hu30 := Try.underlying30
 have HR0_0 := Am_ hr0_0
 have HC0_0 := Am_ hc0_0
 clear hr0_0 hc0_0
 have HR0_3 := Am_ hr0_3
 have HC0_3 := Am_ hc0_3
 clear hr0_3 hc0_3
 have HB := Am_ (Below.refl w.heap.size w)
 have H : ((laws_toPlacement.f k l0_0 a0_1 a0_2).bind fun bt299 => ((laws_toAirStationS.f k l0_3).bind fun t304 => (some (bt299.1, bt299.2.1, bt299.2.2, t304, a0_4, a0_5, a0_6)))) = some (r1, r2, r3, r4, r5, r6, r7) := h
 clear h
 replace H := Option.bind_eq_some_iff.mp H
 obtain ⟨⟨t299, t302, t303⟩, A20, H⟩ := H
 replace H : ((laws_toAirStationS.f k l0_3).bind fun t304 => (some (t299, t302, t303, t304, a0_4, a0_5, a0_6))) = some (r1, r2, r3, r4, r5, r6, r7) := H
 have A2 := Am_ A20
 clear A20
 replace H := Option.bind_eq_some_iff.mp H
 obtain ⟨t304, A30, H⟩ := H
 replace H : (some (t299, t302, t303, t304, a0_4, a0_5, a0_6)) = some (r1, r2, r3, r4, r5, r6, r7) := H
 have A3 := Am_ A30
 clear A30
 simp only [Option.some.injEq, Prod.mk.injEq] at H
 obtain ⟨rfl, rfl, rfl, rfl, rfl, rfl, rfl⟩ := H
 go_enter Try.func17, Try.ntmps17
 go_wp2_with (first | ((with_reducible refine gate_dst (N := 1) rfl ?_); refine box_event ?hg (N := 1) ?hd (cs := #[.slice A0_0 l0_0.length c0_0, .int .i64 a0_1, .int .i64 a0_2, .slice A0_3 l0_3.length c0_3, .int .i64 a0_4, .int .i64 a0_5, .int .i64 a0_6]) (t := 27) ?hr ?_; (case hd => rfl); (case hg => rfl); (case hr => first | (go_simp; done) | (go_simp; rfl)); intro gb296 hg w4 hbox hb; have n0_ := Am_ (bT_ (by repeat (first | (with_reducible first | exact HB.1 | apply bA_ | apply bN_ | apply bD_) | exact HB.1)) hb); have n1_ := Am_ (hbox); have n2_ := Am_ ((by rw [hg]; exact (bZ_ (by repeat (first | (with_reducible first | exact HB.1 | apply bA_ | apply bN_ | apply bD_) | exact HB.1))) : w.heap.size ≤ gb296)); have n3_ := Am_ ((by rw [hg]; exact (bZ_ (by repeat (first | (with_reducible first | exact HB.1 | apply bA_ | apply bN_ | apply bD_) | exact HB.1))) : w.heap.size ≤ gb296)); clear HB; have HB := n0_; have BK296 := n1_; have GW296 := n2_; have GE296 := n3_; clear n0_ n1_ n2_ n3_ hb hbox hg) | ((with_reducible refine gate_dst (N := 2) rfl ?_); refine box_event ?hg (N := 2) ?hd (cs := #[.slice none 0 0, .int .i64 0, .int .i64 0, .slice none 0 0, .int .i64 0, .int .i64 0, .int .i64 0]) (t := 33) ?hr ?_; (case hd => rfl); (case hg => rfl); (case hr => first | (go_simp; done) | (go_simp; rfl)); intro gb297 hg w5 hbox hb; have n0_ := Am_ (kB_ (g := gb296) (by (with_reducible repeat (first | refine kN_ ?_ _ | refine kD_ ?_ | refine kA_ ?_ _)); exact BK296.1) hb); have n1_ := Am_ (bT_ (by repeat (first | (with_reducible first | exact HB.1 | apply bA_ | apply bN_ | apply bD_ | refine bS_ ?_ GE296.1) | exact HB.1)) hb); have n2_ := Am_ (hbox); have n3_ := Am_ ((by rw [hg]; exact (bZ_ (by repeat (first | (with_reducible first | exact HB.1 | apply bA_ | apply bN_ | apply bD_ | refine bS_ ?_ GE296.1) | exact HB.1))) : w.heap.size ≤ gb297)); have n4_ := Am_ ((by rw [hg]; exact (bZ_ (by repeat (first | (with_reducible first | exact HB.1 | apply bA_ | apply bN_ | apply bD_ | refine bS_ ?_ GE296.1) | exact HB.1))) : w.heap.size ≤ gb297)); have n5_ := Am_ ((by rw [hg]; exact Nat.ne_of_lt (blk_lt (g := gb296) (by (with_reducible repeat (first | refine kN_ ?_ _ | refine kD_ ?_ | refine kA_ ?_ _)); exact BK296.1)) : gb296 ≠ gb297)); have n6_ := Am_ ((by rw [hg]; exact Nat.ne_of_gt (blk_lt (g := gb296) (by (with_reducible repeat (first | refine kN_ ?_ _ | refine kD_ ?_ | refine kA_ ?_ _)); exact BK296.1)) : gb297 ≠ gb296)); clear BK296 HB; have BK296 := n0_; have HB := n1_; have BK297 := n2_; have GW297 := n3_; have GE297 := n4_; have NB296_297 := n5_; have NB297_296 := n6_; clear n0_ n1_ n2_ n3_ n4_ n5_ n6_ hb hbox hg) | ((with_reducible refine gate_dst (N := 3) rfl ?_); refine box_event ?hg (N := 3) ?hd (cs := #[.slice none 0 0, .int .i64 0, .int .i64 0, .slice none 0 0, .int .i64 0, .int .i64 0, .int .i64 0]) (t := 33) ?hr ?_; (case hd => rfl); (case hg => rfl); (case hr => first | (go_simp; done) | (go_simp; rfl)); intro gb298 hg w6 hbox hb; have n0_ := Am_ (kB_ (g := gb296) (by (with_reducible repeat (first | refine kN_ ?_ _ | refine kD_ ?_ | refine kA_ ?_ _)); exact BK296.1) hb); have n1_ := Am_ (kB_ (g := gb297) (by (with_reducible repeat (first | refine kN_ ?_ _ | refine kD_ ?_ | refine kA_ ?_ _)); exact BK297.1) hb); have n2_ := Am_ (bT_ (by repeat (first | (with_reducible first | exact HB.1 | apply bA_ | apply bN_ | apply bD_ | refine bS_ ?_ GE296.1 | refine bS_ ?_ GE297.1) | exact HB.1)) hb); have n3_ := Am_ (hbox); have n4_ := Am_ ((by rw [hg]; exact (bZ_ (by repeat (first | (with_reducible first | exact HB.1 | apply bA_ | apply bN_ | apply bD_ | refine bS_ ?_ GE296.1 | refine bS_ ?_ GE297.1) | exact HB.1))) : w.heap.size ≤ gb298)); have n5_ := Am_ ((by rw [hg]; exact (bZ_ (by repeat (first | (with_reducible first | exact HB.1 | apply bA_ | apply bN_ | apply bD_ | refine bS_ ?_ GE296.1 | refine bS_ ?_ GE297.1) | exact HB.1))) : w.heap.size ≤ gb298)); have n6_ := Am_ ((by rw [hg]; exact Nat.ne_of_lt (blk_lt (g := gb296) (by (with_reducible repeat (first | refine kN_ ?_ _ | refine kD_ ?_ | refine kA_ ?_ _)); exact BK296.1)) : gb296 ≠ gb298)); have n7_ := Am_ ((by rw [hg]; exact Nat.ne_of_gt (blk_lt (g := gb296) (by (with_reducible repeat (first | refine kN_ ?_ _ | refine kD_ ?_ | refine kA_ ?_ _)); exact BK296.1)) : gb298 ≠ gb296)); have n8_ := Am_ ((by rw [hg]; exact Nat.ne_of_lt (blk_lt (g := gb297) (by (with_reducible repeat (first | refine kN_ ?_ _ | refine kD_ ?_ | refine kA_ ?_ _)); exact BK297.1)) : gb297 ≠ gb298)); have n9_ := Am_ ((by rw [hg]; exact Nat.ne_of_gt (blk_lt (g := gb297) (by (with_reducible repeat (first | refine kN_ ?_ _ | refine kD_ ?_ | refine kA_ ?_ _)); exact BK297.1)) : gb298 ≠ gb297)); clear BK296 BK297 HB; have BK296 := n0_; have BK297 := n1_; have HB := n2_; have BK298 := n3_; have GW298 := n4_; have GE298 := n5_; have NB296_298 := n6_; have NB298_296 := n7_; have NB297_298 := n8_; have NB298_297 := n9_; clear n0_ n1_ n2_ n3_ n4_ n5_ n6_ n7_ n8_ n9_ hb hbox hg; have hnb7 := NB296_297.1; have hnc7 := NB297_296.1; have hnb8 := NB296_298.1; have hnc8 := NB298_296.1; have hcz9_0 : w6.cell? ⟨gb296, 0, none⟩ = some (.slice A0_0 l0_0.length c0_0) := kC_ BK296.1 0; have hcz9_1 : w6.cell? ⟨gb296, 1, none⟩ = some (.int .i64 a0_1) := kC_ BK296.1 1; have hcz9_2 : w6.cell? ⟨gb296, 2, none⟩ = some (.int .i64 a0_2) := kC_ BK296.1 2; have hcz9_3 : w6.cell? ⟨gb296, 3, none⟩ = some (.slice A0_3 l0_3.length c0_3) := kC_ BK296.1 3; have hcz9_4 : w6.cell? ⟨gb296, 4, none⟩ = some (.int .i64 a0_4) := kC_ BK296.1 4; have hcz9_5 : w6.cell? ⟨gb296, 5, none⟩ = some (.int .i64 a0_5) := kC_ BK296.1 5; have hcz9_6 : w6.cell? ⟨gb296, 6, none⟩ = some (.int .i64 a0_6) := kC_ BK296.1 6; have hfz9_0 := kF_ BK296.1 0; have hfz9_1 := kF_ BK296.1 1; have hfz9_2 := kF_ BK296.1 2; have hfz9_3 := kF_ BK296.1 3; have hfz9_4 := kF_ BK296.1 4; have hfz9_5 := kF_ BK296.1 5; have hfz9_6 := kF_ BK296.1 6) | ((with_reducible refine gate_callee (f := 42) rfl ?_); refine goesL_ (some 6) rfl rfl Try.func42 (by kernel_rfl) rfl #[.agg #[.slice A0_0 l0_0.length c0_0, .int .i64 a0_1, .int .i64 a0_2]] rfl (by (try simp only [List.map_toArray, List.map_cons, List.map_nil]); first | done | rfl | (simp only [List.length_drop, List.length_take]; rfl)) ?_; (with_reducible refine (laws_toPlacement.calls k _ _ l0_0 a0_1 a0_2 t299 t302 t303 _ ?side1 ?side2 A2.1).mono ?_); (case side1 => repeat (first | exact (Kd.C_below HR0_0.1 HB.1) | (with_reducible refine Kd.C_alloc ?_ _) | (with_reducible refine Kd.C_drewN ?_ _) | (with_reducible refine Kd.C_drew ?_))); (case side2 => exact HC0_0.1); rintro e w10 ⟨v300, rfl, ho0, hb⟩; refine ⟨_, rfl, ?_⟩; have n0_ := Am_ (Kd.R_lower ho0 (bZ_ (by repeat (first | (with_reducible first | exact HB.1 | apply bA_ | apply bN_ | apply bD_ | refine bS_ ?_ GE296.1 | refine bS_ ?_ GE297.1 | refine bS_ ?_ GE298.1) | exact HB.1)))); have n1_ := Am_ (kB_ (g := gb296) (by (with_reducible repeat (first | refine kN_ ?_ _ | refine kD_ ?_ | refine kA_ ?_ _)); exact BK296.1) hb); have n2_ := Am_ (kB_ (g := gb297) (by (with_reducible repeat (first | refine kN_ ?_ _ | refine kD_ ?_ | refine kA_ ?_ _)); exact BK297.1) hb); have n3_ := Am_ (kB_ (g := gb298) (by (with_reducible repeat (first | refine kN_ ?_ _ | refine kD_ ?_ | refine kA_ ?_ _)); exact BK298.1) hb); have n4_ := Am_ (bT_ (by repeat (first | (with_reducible first | exact HB.1 | apply bA_ | apply bN_ | apply bD_ | refine bS_ ?_ GE296.1 | refine bS_ ?_ GE297.1 | refine bS_ ?_ GE298.1) | exact HB.1)) hb); clear BK296 BK297 BK298 HB; have HO301 := n0_; have BK296 := n1_; have BK297 := n2_; have BK298 := n3_; have HB := n4_; clear n0_ n1_ n2_ n3_ n4_; (try clear hb); (try clear hb2); (try clear hk); (try clear hi); (try clear ho0); obtain ⟨Ao11, co11, eo11⟩ := Kd.R_slice HO301.1; subst eo11; have hnb12 := NB298_297.1; have hnc12 := NB297_298.1; have hcz13_0 : w10.cell? ⟨gb298, 0, none⟩ = some (.slice none 0 0) := kC_ BK298.1 0; have hcz13_1 : w10.cell? ⟨gb298, 1, none⟩ = some (.int .i64 0) := kC_ BK298.1 1; have hcz13_2 : w10.cell? ⟨gb298, 2, none⟩ = some (.int .i64 0) := kC_ BK298.1 2; have hcz13_3 : w10.cell? ⟨gb298, 3, none⟩ = some (.slice none 0 0) := kC_ BK298.1 3; have hcz13_4 : w10.cell? ⟨gb298, 4, none⟩ = some (.int .i64 0) := kC_ BK298.1 4; have hcz13_5 : w10.cell? ⟨gb298, 5, none⟩ = some (.int .i64 0) := kC_ BK298.1 5; have hcz13_6 : w10.cell? ⟨gb298, 6, none⟩ = some (.int .i64 0) := kC_ BK298.1 6; have hfz13_0 := kF_ BK298.1 0; have hfz13_1 := kF_ BK298.1 1; have hfz13_2 := kF_ BK298.1 2; have hfz13_3 := kF_ BK298.1 3; have hfz13_4 := kF_ BK298.1 4; have hfz13_5 := kF_ BK298.1 5; have hfz13_6 := kF_ BK298.1 6; have hcz14_0 : w10.cell? ⟨gb296, 0, none⟩ = some (.slice A0_0 l0_0.length c0_0) := kC_ BK296.1 0; have hcz14_1 : w10.cell? ⟨gb296, 1, none⟩ = some (.int .i64 a0_1) := kC_ BK296.1 1; have hcz14_2 : w10.cell? ⟨gb296, 2, none⟩ = some (.int .i64 a0_2) := kC_ BK296.1 2; have hcz14_3 : w10.cell? ⟨gb296, 3, none⟩ = some (.slice A0_3 l0_3.length c0_3) := kC_ BK296.1 3; have hcz14_4 : w10.cell? ⟨gb296, 4, none⟩ = some (.int .i64 a0_4) := kC_ BK296.1 4; have hcz14_5 : w10.cell? ⟨gb296, 5, none⟩ = some (.int .i64 a0_5) := kC_ BK296.1 5; have hcz14_6 : w10.cell? ⟨gb296, 6, none⟩ = some (.int .i64 a0_6) := kC_ BK296.1 6; have hfz14_0 := kF_ BK296.1 0; have hfz14_1 := kF_ BK296.1 1; have hfz14_2 := kF_ BK296.1 2; have hfz14_3 := kF_ BK296.1 3; have hfz14_4 := kF_ BK296.1 4; have hfz14_5 := kF_ BK296.1 5; have hfz14_6 := kF_ BK296.1 6) | ((with_reducible refine gate_callee (f := 66) rfl ?_); refine goesL_ (some 10) rfl rfl Try.func66 (by kernel_rfl) rfl #[.slice A0_3 l0_3.length c0_3] rfl (by (try simp only [List.map_toArray, List.map_cons, List.map_nil]); first | done | rfl | (simp only [List.length_drop, List.length_take]; rfl)) ?_; (with_reducible refine (laws_toAirStationS.calls k _ _ l0_3 t304 _ ?side1 ?side2 A3.1).mono ?_); (case side1 => exact Kd.C_below HR0_3.1 (by repeat (first | (with_reducible first | exact HB.1 | apply bA_ | apply bN_ | apply bD_ | refine bS_ ?_ GE296.1 | refine bS_ ?_ GE297.1 | refine bS_ ?_ GE298.1) | exact HB.1))); (case side2 => exact HC0_3.1); rintro e w15 ⟨v305, rfl, ho0, hb⟩; refine ⟨_, rfl, ?_⟩; have n0_ := Am_ (Kd.R_below (by (with_reducible repeat (first | apply rA_ | apply rN_ | apply rD_)); exact (Kd.R_mono (rF_ (p := ⟨gb298, 2, none⟩) (rF_ (p := ⟨gb298, 1, none⟩) (rF_ (p := ⟨gb298, 0, none⟩) (Kd.R_types HO301.1 BK298.1 (by decide)) (fun _ hk => hk.2) (.slice Ao11 t299.length co11)) (fun _ hk => hk.2) (.int .i64 t302)) (fun _ hk => hk.2) (.int .i64 t303)) (fun _ h_ => h_.1))) hb); have n1_ := Am_ (Kd.R_lower ho0 (bZ_ (by repeat (first | (with_reducible first | exact HB.1 | apply bA_ | apply bN_ | apply bD_ | refine bS_ ?_ GE296.1 | refine bS_ ?_ GE297.1 | refine bS_ ?_ GE298.1) | exact HB.1)))); have n2_ := Am_ (kB_ (g := gb296) (o := .cells #[.slice A0_0 l0_0.length c0_0, .int .i64 a0_1, .int .i64 a0_2, .slice A0_3 l0_3.length c0_3, .int .i64 a0_4, .int .i64 a0_5, .int .i64 a0_6] 27 (0, 0)) (by (with_reducible repeat (first | refine kN_ ?_ _ | refine kD_ ?_ | refine kA_ ?_ _)); refine blk_far ?_ NB296_298.1 _; (with_reducible repeat (first | refine kN_ ?_ _ | refine kD_ ?_ | refine kA_ ?_ _)); refine blk_far ?_ NB296_298.1 _; (with_reducible repeat (first | refine kN_ ?_ _ | refine kD_ ?_ | refine kA_ ?_ _)); refine blk_far ?_ NB296_298.1 _; (with_reducible repeat (first | refine kN_ ?_ _ | refine kD_ ?_ | refine kA_ ?_ _)); exact BK296.1) hb); have n3_ := Am_ (kB_ (g := gb297) (o := .cells #[.slice none 0 0, .int .i64 0, .int .i64 0, .slice none 0 0, .int .i64 0, .int .i64 0, .int .i64 0] 33 (0, 0)) (by (with_reducible repeat (first | refine kN_ ?_ _ | refine kD_ ?_ | refine kA_ ?_ _)); refine blk_far ?_ NB297_298.1 _; (with_reducible repeat (first | refine kN_ ?_ _ | refine kD_ ?_ | refine kA_ ?_ _)); refine blk_far ?_ NB297_298.1 _; (with_reducible repeat (first | refine kN_ ?_ _ | refine kD_ ?_ | refine kA_ ?_ _)); refine blk_far ?_ NB297_298.1 _; (with_reducible repeat (first | refine kN_ ?_ _ | refine kD_ ?_ | refine kA_ ?_ _)); exact BK297.1) hb); have n4_ := Am_ (kB_ (g := gb298) (o := .cells #[.slice Ao11 t299.length co11, .int .i64 t302, .int .i64 t303, .slice none 0 0, .int .i64 0, .int .i64 0, .int .i64 0] 33 (0, 0)) (by (with_reducible repeat (first | refine kN_ ?_ _ | refine kD_ ?_ | refine kA_ ?_ _)); refine blk_put (cs := #[.slice Ao11 t299.length co11, .int .i64 t302, .int .i64 0, .slice none 0 0, .int .i64 0, .int .i64 0, .int .i64 0]) ?_ 2 _ rfl; (with_reducible repeat (first | refine kN_ ?_ _ | refine kD_ ?_ | refine kA_ ?_ _)); refine blk_put (cs := #[.slice Ao11 t299.length co11, .int .i64 0, .int .i64 0, .slice none 0 0, .int .i64 0, .int .i64 0, .int .i64 0]) ?_ 1 _ rfl; (with_reducible repeat (first | refine kN_ ?_ _ | refine kD_ ?_ | refine kA_ ?_ _)); refine blk_put (cs := #[.slice none 0 0, .int .i64 0, .int .i64 0, .slice none 0 0, .int .i64 0, .int .i64 0, .int .i64 0]) ?_ 0 _ rfl; (with_reducible repeat (first | refine kN_ ?_ _ | refine kD_ ?_ | refine kA_ ?_ _)); exact BK298.1) hb); have n5_ := Am_ (bT_ (by repeat (first | (with_reducible first | exact HB.1 | apply bA_ | apply bN_ | apply bD_ | refine bS_ ?_ GE296.1 | refine bS_ ?_ GE297.1 | refine bS_ ?_ GE298.1) | exact HB.1)) hb); clear HO301 BK296 BK297 BK298 HB; have HO301 := n0_; have HO306 := n1_; have BK296 := n2_; have BK297 := n3_; have BK298 := n4_; have HB := n5_; clear n0_ n1_ n2_ n3_ n4_ n5_; (try clear hb); (try clear hb2); (try clear hk); (try clear hi); (try clear ho0); obtain ⟨Ao16, co16, eo16⟩ := Kd.R_slice HO306.1; subst eo16; have hcz17_0 : w15.cell? ⟨gb298, 0, none⟩ = some (.slice Ao11 t299.length co11) := kC_ BK298.1 0; have hcz17_1 : w15.cell? ⟨gb298, 1, none⟩ = some (.int .i64 t302) := kC_ BK298.1 1; have hcz17_2 : w15.cell? ⟨gb298, 2, none⟩ = some (.int .i64 t303) := kC_ BK298.1 2; have hcz17_3 : w15.cell? ⟨gb298, 3, none⟩ = some (.slice none 0 0) := kC_ BK298.1 3; have hcz17_4 : w15.cell? ⟨gb298, 4, none⟩ = some (.int .i64 0) := kC_ BK298.1 4; have hcz17_5 : w15.cell? ⟨gb298, 5, none⟩ = some (.int .i64 0) := kC_ BK298.1 5; have hcz17_6 : w15.cell? ⟨gb298, 6, none⟩ = some (.int .i64 0) := kC_ BK298.1 6; have hfz17_0 := kF_ BK298.1 0; have hfz17_1 := kF_ BK298.1 1; have hfz17_2 := kF_ BK298.1 2; have hfz17_3 := kF_ BK298.1 3; have hfz17_4 := kF_ BK298.1 4; have hfz17_5 := kF_ BK298.1 5; have hfz17_6 := kF_ BK298.1 6; have hcz18_0 : w15.cell? ⟨gb296, 0, none⟩ = some (.slice A0_0 l0_0.length c0_0) := kC_ BK296.1 0; have hcz18_1 : w15.cell? ⟨gb296, 1, none⟩ = some (.int .i64 a0_1) := kC_ BK296.1 1; have hcz18_2 : w15.cell? ⟨gb296, 2, none⟩ = some (.int .i64 a0_2) := kC_ BK296.1 2; have hcz18_3 : w15.cell? ⟨gb296, 3, none⟩ = some (.slice A0_3 l0_3.length c0_3) := kC_ BK296.1 3; have hcz18_4 : w15.cell? ⟨gb296, 4, none⟩ = some (.int .i64 a0_4) := kC_ BK296.1 4; have hcz18_5 : w15.cell? ⟨gb296, 5, none⟩ = some (.int .i64 a0_5) := kC_ BK296.1 5; have hcz18_6 : w15.cell? ⟨gb296, 6, none⟩ = some (.int .i64 a0_6) := kC_ BK296.1 6; have hfz18_0 := kF_ BK296.1 0; have hfz18_1 := kF_ BK296.1 1; have hfz18_2 := kF_ BK296.1 2; have hfz18_3 := kF_ BK296.1 3; have hfz18_4 := kF_ BK296.1 4; have hfz18_5 := kF_ BK296.1 5; have hfz18_6 := kF_ BK296.1 6; have hcz19_0 : w15.cell? ⟨gb297, 0, none⟩ = some (.slice none 0 0) := kC_ BK297.1 0; have hcz19_1 : w15.cell? ⟨gb297, 1, none⟩ = some (.int .i64 0) := kC_ BK297.1 1; have hcz19_2 : w15.cell? ⟨gb297, 2, none⟩ = some (.int .i64 0) := kC_ BK297.1 2; have hcz19_3 : w15.cell? ⟨gb297, 3, none⟩ = some (.slice none 0 0) := kC_ BK297.1 3; have hcz19_4 : w15.cell? ⟨gb297, 4, none⟩ = some (.int .i64 0) := kC_ BK297.1 4; have hcz19_5 : w15.cell? ⟨gb297, 5, none⟩ = some (.int .i64 0) := kC_ BK297.1 5; have hcz19_6 : w15.cell? ⟨gb297, 6, none⟩ = some (.int .i64 0) := kC_ BK297.1 6; have hfz19_0 := kF_ BK297.1 0; have hfz19_1 := kF_ BK297.1 1; have hfz19_2 := kF_ BK297.1 2; have hfz19_3 := kF_ BK297.1 3; have hfz19_4 := kF_ BK297.1 4; have hfz19_5 := kF_ BK297.1 5; have hfz19_6 := kF_ BK297.1 6))
 refine bodyPost_ret (results_cell_row rfl _ _ gb297 33 #[.slice Ao11 t299.length co11, .int .i64 t302, .int .i64 t303, .slice Ao16 t304.length co16, .int .i64 a0_4, .int .i64 a0_5, .int .i64 a0_6] (0, 0) _ rfl (by (with_reducible repeat (first | refine kN_ ?_ _ | refine kD_ ?_ | refine kA_ ?_ _)); refine blk_put (cs := #[.slice Ao11 t299.length co11, .int .i64 t302, .int .i64 t303, .slice Ao16 t304.length co16, .int .i64 a0_4, .int .i64 a0_5, .int .i64 0]) ?_ 6 _ rfl; (with_reducible repeat (first | refine kN_ ?_ _ | refine kD_ ?_ | refine kA_ ?_ _)); refine blk_put (cs := #[.slice Ao11 t299.length co11, .int .i64 t302, .int .i64 t303, .slice Ao16 t304.length co16, .int .i64 a0_4, .int .i64 0, .int .i64 0]) ?_ 5 _ rfl; (with_reducible repeat (first | refine kN_ ?_ _ | refine kD_ ?_ | refine kA_ ?_ _)); refine blk_put (cs := #[.slice Ao11 t299.length co11, .int .i64 t302, .int .i64 t303, .slice Ao16 t304.length co16, .int .i64 0, .int .i64 0, .int .i64 0]) ?_ 4 _ rfl; (with_reducible repeat (first | refine kN_ ?_ _ | refine kD_ ?_ | refine kA_ ?_ _)); refine blk_put (cs := #[.slice Ao11 t299.length co11, .int .i64 t302, .int .i64 t303, .slice none 0 0, .int .i64 0, .int .i64 0, .int .i64 0]) ?_ 3 _ rfl; (with_reducible repeat (first | refine kN_ ?_ _ | refine kD_ ?_ | refine kA_ ?_ _)); refine blk_put (cs := #[.slice Ao11 t299.length co11, .int .i64 t302, .int .i64 0, .slice none 0 0, .int .i64 0, .int .i64 0, .int .i64 0]) ?_ 2 _ rfl; (with_reducible repeat (first | refine kN_ ?_ _ | refine kD_ ?_ | refine kA_ ?_ _)); refine blk_put (cs := #[.slice Ao11 t299.length co11, .int .i64 0, .int .i64 0, .slice none 0 0, .int .i64 0, .int .i64 0, .int .i64 0]) ?_ 1 _ rfl; (with_reducible repeat (first | refine kN_ ?_ _ | refine kD_ ?_ | refine kA_ ?_ _)); refine blk_put (cs := #[.slice none 0 0, .int .i64 0, .int .i64 0, .slice none 0 0, .int .i64 0, .int .i64 0, .int .i64 0]) ?_ 0 _ rfl; (with_reducible repeat (first | refine kN_ ?_ _ | refine kD_ ?_ | refine kA_ ?_ _)); refine blk_far ?_ NB297_298.1 _; (with_reducible repeat (first | refine kN_ ?_ _ | refine kD_ ?_ | refine kA_ ?_ _)); refine blk_far ?_ NB297_298.1 _; (with_reducible repeat (first | refine kN_ ?_ _ | refine kD_ ?_ | refine kA_ ?_ _)); refine blk_far ?_ NB297_298.1 _; (with_reducible repeat (first | refine kN_ ?_ _ | refine kD_ ?_ | refine kA_ ?_ _)); refine blk_far ?_ NB297_298.1 _; (with_reducible repeat (first | refine kN_ ?_ _ | refine kD_ ?_ | refine kA_ ?_ _)); exact BK297.1) Try.underlying33 rfl (by kernel_rfl)) rfl ?_
 exact ⟨_, _, by first | rfl | (simp [errW_none, errW_some] <;> rfl) | (simp [*, errW_none, errW_some] <;> rfl), by (with_reducible repeat (first | apply rA_ | apply rN_ | apply rD_)); exact Kd.R_mono (rF_ (p := ⟨gb297, 6, none⟩) (rF_ (p := ⟨gb297, 5, none⟩) (rF_ (p := ⟨gb297, 4, none⟩) (rF_ (p := ⟨gb297, 3, none⟩) (rF_ (p := ⟨gb297, 2, none⟩) (rF_ (p := ⟨gb297, 1, none⟩) (rF_ (p := ⟨gb297, 0, none⟩) (rF_ (p := ⟨gb298, 6, none⟩) (rF_ (p := ⟨gb298, 5, none⟩) (rF_ (p := ⟨gb298, 4, none⟩) (rF_ (p := ⟨gb298, 3, none⟩) (Kd.R_types (Kd.R_types HO301.1 BK298.1 (by decide)) BK297.1 (by decide)) (fun _ hk => hk.1.2) (.slice Ao16 t304.length co16)) (fun _ hk => hk.1.2) (.int .i64 a0_4)) (fun _ hk => hk.1.2) (.int .i64 a0_5)) (fun _ hk => hk.1.2) (.int .i64 a0_6)) (fun _ hk => hk.2) (.slice Ao11 t299.length co11)) (fun _ hk => hk.2) (.int .i64 t302)) (fun _ hk => hk.2) (.int .i64 t303)) (fun _ hk => hk.2) (.slice Ao16 t304.length co16)) (fun _ hk => hk.2) (.int .i64 a0_4)) (fun _ hk => hk.2) (.int .i64 a0_5)) (fun _ hk => hk.2) (.int .i64 a0_6)) (fun _ hk => trivial), by (with_reducible repeat (first | apply rA_ | apply rN_ | apply rD_)); exact Kd.R_mono (rF_ (p := ⟨gb297, 6, none⟩) (rF_ (p := ⟨gb297, 5, none⟩) (rF_ (p := ⟨gb297, 4, none⟩) (rF_ (p := ⟨gb297, 3, none⟩) (rF_ (p := ⟨gb297, 2, none⟩) (rF_ (p := ⟨gb297, 1, none⟩) (rF_ (p := ⟨gb297, 0, none⟩) (rF_ (p := ⟨gb298, 6, none⟩) (rF_ (p := ⟨gb298, 5, none⟩) (rF_ (p := ⟨gb298, 4, none⟩) (rF_ (p := ⟨gb298, 3, none⟩) (Kd.R_types (Kd.R_types HO306.1 BK298.1 (by decide)) BK297.1 (by decide)) (fun _ hk => hk.1.2) (.slice Ao16 t304.length co16)) (fun _ hk => hk.1.2) (.int .i64 a0_4)) (fun _ hk => hk.1.2) (.int .i64 a0_5)) (fun _ hk => hk.1.2) (.int .i64 a0_6)) (fun _ hk => hk.2) (.slice Ao11 t299.length co11)) (fun _ hk => hk.2) (.int .i64 t302)) (fun _ hk => hk.2) (.int .i64 t303)) (fun _ hk => hk.2) (.slice Ao16 t304.length co16)) (fun _ hk => hk.2) (.int .i64 a0_4)) (fun _ hk => hk.2) (.int .i64 a0_5)) (fun _ hk => hk.2) (.int .i64 a0_6)) (fun _ hk => trivial), by repeat (first | (with_reducible first | exact HB.1 | apply bA_ | apply bN_ | apply bD_ | refine bS_ ?_ GE296.1 | refine bS_ ?_ GE297.1 | refine bS_ ?_ GE298.1) | exact HB.1)⟩

/-! ### impl_boolToInt: function 67 -/
def impl_boolToInt.f (a0 : Bool) : Option (Int) := if a0 = true then (some 1) else (some 0)
set_option maxHeartbeats 8000000 in
set_option maxRecDepth 100000 in
theorem impl_boolToInt.calls (a0 : Bool) (r : Int) (w : World) (h : impl_boolToInt.f a0 = some r) :
  Calls Try.prog 67 #[.bool a0] w fun e w' => e = .returned (.int .i64 r) ∧ Drawn0 w w' := by
 have H : (if a0 = true then (some 1) else (some 0)) = some r := h
 clear h
 by_cases c2 : a0 = true
 ·subst c2
  have H1 : (some 1) = some r := by rw [if_pos rfl] at H; exact H
  clear H
  have H := H1
  clear H1
  obtain rfl := Option.some.inj H
  go_enter Try.func67, Try.ntmps67
  go_wp2
  go_ret
  exact ⟨by first | rfl | (simp; done) | (simp [*]; done), by repeat (first | exact Drawn0.refl _ | apply Drawn0.step)⟩
 ·replace c2 := Bool.eq_false_iff.mpr c2
  subst c2
  have H1 : (some 0) = some r := by rw [if_neg (show ¬ (false = true) by decide)] at H; exact H
  clear H
  have H := H1
  clear H1
  obtain rfl := Option.some.inj H
  go_enter Try.func67, Try.ntmps67
  go_wp2
  go_ret
  exact ⟨by first | rfl | (simp; done) | (simp [*]; done), by repeat (first | exact Drawn0.refl _ | apply Drawn0.step)⟩

/-! ### impl_UnfinishedFrames: function 18 -/
def impl_UnfinishedFrames.l0 : Nat → Int → List (S97) → Int → Int → Option (Int)
 | 0, _, _, _, _ => none
 | k + 1, x3, x7, x8, x9 => if x9 < x8 then (if 0 ≤ x9 then (if x9 < (x7.length : Int) then ((impl_boolToInt.f ((rd_T97 x7 x9).f1)).bind fun t310 => (impl_UnfinishedFrames.l0 k (wrap64 (x3 + (wrap64 ((((rd_T97 x7 x9).f0.f0).length : Int) + t310)))) x7 x8 (wrap64 (x9 + 1)))) else (none)) else (none)) else (some x3)
def impl_UnfinishedFrames.f (k : Nat) (l0_0 : List Int) (a0_1 : Int) (a0_2 : Int) (l0_3 : List (S97)) (a0_4 : Int) (a0_5 : Int) (a0_6 : Int) : Option (Int) := impl_UnfinishedFrames.l0 k 0 l0_3 (l0_3.length : Int) 0
theorem impl_UnfinishedFrames.mono_l : ∀ k, (∀ y0 y1 y2 y3, LeO (impl_UnfinishedFrames.l0 k y0 y1 y2 y3) (impl_UnfinishedFrames.l0 (k + 1) y0 y1 y2 y3))
 | 0 => fun _ _ _ _ r h => by simp [impl_UnfinishedFrames.l0] at h
 | k + 1 => by
  have ih0 := impl_UnfinishedFrames.mono_l k
  ·intro y0 y1 y2 y3
   unfold impl_UnfinishedFrames.l0
   repeat' first
   | (with_reducible exact ih0 _ _ _ _)
   | (with_reducible exact LeO.refl _)
   | (with_reducible exact LeO.none _)
   | (with_reducible refine LeO.ite ?_ ?_)
   | (with_reducible refine LeO.bind ?_ (fun _ => ?_))
   | exact ih0 _ _ _ _
   | exact LeO.none _
   | refine LeO.ite ?_ ?_
   | refine LeO.bind ?_ (fun _ => ?_)
theorem impl_UnfinishedFrames.mono : ∀ a0 a1 a2 a3 a4 a5 a6 k, LeO (impl_UnfinishedFrames.f k a0 a1 a2 a3 a4 a5 a6) (impl_UnfinishedFrames.f (k + 1) a0 a1 a2 a3 a4 a5 a6) := by
 intro a0 a1 a2 a3 a4 a5 a6 k
 have ih0 := impl_UnfinishedFrames.mono_l k
 unfold impl_UnfinishedFrames.f
 repeat' first
   | (with_reducible exact ih0 _ _ _ _)
   | (with_reducible exact LeO.refl _)
   | (with_reducible exact LeO.none _)
   | (with_reducible refine LeO.ite ?_ ?_)
   | (with_reducible refine LeO.bind ?_ (fun _ => ?_))
   | exact ih0 _ _ _ _
   | exact LeO.none _
   | refine LeO.ite ?_ ?_
   | refine LeO.bind ?_ (fun _ => ?_)
set_option maxHeartbeats 8000000 in
set_option maxRecDepth 100000 in
theorem impl_UnfinishedFrames.calls (k : Nat) (A0_0 : Option Addr) (c0_0 : Nat) (l0_0 : List Int) (a0_1 : Int) (a0_2 : Int) (A0_3 : Option Addr) (c0_3 : Nat) (l0_3 : List (S97)) (a0_4 : Int) (a0_5 : Int) (a0_6 : Int) (r : Int) (w : World) (hr0_0 : Kd.C (Kd.int .i64) w A0_0 l0_0.length l0_0) (hc0_0 : l0_0.length ≤ c0_0) (hr0_3 : Kd.C k97 w A0_3 l0_3.length l0_3) (hc0_3 : l0_3.length ≤ c0_3) (h : impl_UnfinishedFrames.f k l0_0 a0_1 a0_2 l0_3 a0_4 a0_5 a0_6 = some r) :
  Calls Try.prog 18 #[.agg #[.slice A0_0 l0_0.length c0_0, .int .i64 a0_1, .int .i64 a0_2, .slice A0_3 l0_3.length c0_3, .int .i64 a0_4, .int .i64 a0_5, .int .i64 a0_6]] w fun e w' => e = .returned (.int .i64 r) ∧ Below w.heap.size w w' := by
 have hu33 := Try.underlying33
 have hu97 := Try.underlying97
 have HR0_0 := Am_ hr0_0
 have HC0_0 := Am_ hc0_0
 clear hr0_0 hc0_0
 have HR0_3 := Am_ hr0_3
 have HC0_3 := Am_ hc0_3
 clear hr0_3 hc0_3
 have HB := Am_ (Below.refl w.heap.size w)
 have H : (impl_UnfinishedFrames.l0 k 0 l0_3 (l0_3.length : Int) 0) = some r := h
 clear h
 have H' := Am_ H
 clear H
 go_enter Try.func18, Try.ntmps18
 go_wp2_with (first | ((with_reducible refine gate_dst (N := 12) rfl ?_); refine Go.Proofs.Ytlkofdedkfmaeaa.X.loadL_event ?hg (N := 12) ?hd (t := 97) (p := .tmp 11) ?ho ?hp Try.underlying97 rfl ?hi (fun j u hj => (Below.cell (by repeat (first | (with_reducible first | exact HB.1 | apply bA_ | apply bN_ | apply bD_ | refine bS_ ?_ GE307.1 | refine bS_ ?_ GE309.1) | exact HB.1) : Below w.heap.size w _) (World.block_lt_of_cell? w _ (hx308 j u hj))).trans (hx308 j u hj)) ?_; (case hd => rfl); (case hg => rfl); (case ho => rfl); (case hi => kernel_rfl); (case hp => first | rfl | (go_simp; done) | (go_simp; rfl))) | ((with_reducible refine gate_ (.store 97 (.tmp 5) (.tmp 12)) rfl ?_); refine Go.Proofs.Ytlkofdedkfmaeaa.X.fillL_event ?hg (t := 97) (p := .tmp 5) (v := .tmp 12) ?ho ?hN (g := gb309) (cs := [.slice A308_0 (rd_T97 l0_3 x9_1).f0.f0.length c308_0, .int .i64 (rd_T97 l0_3 x9_1).f0.f1, .bool (rd_T97 l0_3 x9_1).f1, .int .i64 (rd_T97 l0_3 x9_1).f2.f0, .int .i64 (rd_T97 l0_3 x9_1).f2.f1, .int .i64 (rd_T97 l0_3 x9_1).f2.f2, .slice A308_6 (rd_T97 l0_3 x9_1).f2.f3.length c308_6, .bool (rd_T97 l0_3 x9_1).f2.f4, .int .i64 (rd_T97 l0_3 x9_1).f3.f0.f0, .int .i64 (rd_T97 l0_3 x9_1).f3.f0.f1, .int .i64 (rd_T97 l0_3 x9_1).f3.f0.f2, .int .i64 (rd_T97 l0_3 x9_1).f3.f0.f3, .int .i64 (rd_T97 l0_3 x9_1).f3.f1, .int .i64 (rd_T97 l0_3 x9_1).f3.f2, .int .i64 (rd_T97 l0_3 x9_1).f3.f3, .int .i64 (rd_T97 l0_3 x9_1).f3.f4, .int .i64 (rd_T97 l0_3 x9_1).f3.f5, .slice A308_17 (rd_T97 l0_3 x9_1).f4.length c308_17, .int .i64 (rd_T97 l0_3 x9_1).f5, .int .i64 (rd_T97 l0_3 x9_1).f6, .slice A308_20 (rd_T97 l0_3 x9_1).f7.length c308_20, .slice A308_21 (rd_T97 l0_3 x9_1).f8.length c308_21]) ?hp (u := .agg #[.slice A308_0 (rd_T97 l0_3 x9_1).f0.f0.length c308_0, .int .i64 (rd_T97 l0_3 x9_1).f0.f1, .bool (rd_T97 l0_3 x9_1).f1, .int .i64 (rd_T97 l0_3 x9_1).f2.f0, .int .i64 (rd_T97 l0_3 x9_1).f2.f1, .int .i64 (rd_T97 l0_3 x9_1).f2.f2, .slice A308_6 (rd_T97 l0_3 x9_1).f2.f3.length c308_6, .bool (rd_T97 l0_3 x9_1).f2.f4, .int .i64 (rd_T97 l0_3 x9_1).f3.f0.f0, .int .i64 (rd_T97 l0_3 x9_1).f3.f0.f1, .int .i64 (rd_T97 l0_3 x9_1).f3.f0.f2, .int .i64 (rd_T97 l0_3 x9_1).f3.f0.f3, .int .i64 (rd_T97 l0_3 x9_1).f3.f1, .int .i64 (rd_T97 l0_3 x9_1).f3.f2, .int .i64 (rd_T97 l0_3 x9_1).f3.f3, .int .i64 (rd_T97 l0_3 x9_1).f3.f4, .int .i64 (rd_T97 l0_3 x9_1).f3.f5, .slice A308_17 (rd_T97 l0_3 x9_1).f4.length c308_17, .int .i64 (rd_T97 l0_3 x9_1).f5, .int .i64 (rd_T97 l0_3 x9_1).f6, .slice A308_20 (rd_T97 l0_3 x9_1).f7.length c308_20, .slice A308_21 (rd_T97 l0_3 x9_1).f8.length c308_21]) ?hu ?huc BK309.1 ?hsz ?ht ?h1 ?_; (case hg => rfl); (case ho => rfl); (case hN => rfl); (case hp => first | rfl | (go_simp; done) | (go_simp; rfl)); (case hu => first | rfl | (go_simp; done) | (go_simp; rfl)); (case huc => rfl); (case hsz => rfl); (case ht => kernel_rfl); (case h1 => (intro q hq; simp only [List.mem_cons, List.not_mem_nil, or_false] at hq; rcases hq with rfl | rfl | rfl | rfl | rfl | rfl | rfl | rfl | rfl | rfl | rfl | rfl | rfl | rfl | rfl | rfl | rfl | rfl | rfl | rfl | rfl | rfl <;> rfl)); intro wf309 hf1 hf2 hf3; have n0_ := Am_ (Go.Proofs.Ytlkofdedkfmaeaa.X.far_blk BK307.1 NB307_309.1 hf2); have nB_ := Am_ (hf3 _ _ (by repeat (first | (with_reducible first | exact HB.1 | apply bA_ | apply bN_ | apply bD_ | refine bS_ ?_ GE307.1 | refine bS_ ?_ GE309.1) | exact HB.1) : Below w.heap.size w _) GE309.1); clear BK309 HB BK307; have BK307 := n0_; have HB := nB_; have BK309 := Am_ hf1; clear n0_ nB_ hf1 hf2 hf3; have hczf_0 : wf309.cell? ⟨gb309, 0, none⟩ = some (.slice A308_0 (rd_T97 l0_3 x9_1).f0.f0.length c308_0) := kC_ BK309.1 0; have hfzf_0 := kF_ BK309.1 0; have hczf_1 : wf309.cell? ⟨gb309, 1, none⟩ = some (.int .i64 (rd_T97 l0_3 x9_1).f0.f1) := kC_ BK309.1 1; have hfzf_1 := kF_ BK309.1 1; have hczf_2 : wf309.cell? ⟨gb309, 2, none⟩ = some (.bool (rd_T97 l0_3 x9_1).f1) := kC_ BK309.1 2; have hfzf_2 := kF_ BK309.1 2; have hczf_3 : wf309.cell? ⟨gb309, 3, none⟩ = some (.int .i64 (rd_T97 l0_3 x9_1).f2.f0) := kC_ BK309.1 3; have hfzf_3 := kF_ BK309.1 3; have hczf_4 : wf309.cell? ⟨gb309, 4, none⟩ = some (.int .i64 (rd_T97 l0_3 x9_1).f2.f1) := kC_ BK309.1 4; have hfzf_4 := kF_ BK309.1 4; have hczf_5 : wf309.cell? ⟨gb309, 5, none⟩ = some (.int .i64 (rd_T97 l0_3 x9_1).f2.f2) := kC_ BK309.1 5; have hfzf_5 := kF_ BK309.1 5; have hczf_6 : wf309.cell? ⟨gb309, 6, none⟩ = some (.slice A308_6 (rd_T97 l0_3 x9_1).f2.f3.length c308_6) := kC_ BK309.1 6; have hfzf_6 := kF_ BK309.1 6; have hczf_7 : wf309.cell? ⟨gb309, 7, none⟩ = some (.bool (rd_T97 l0_3 x9_1).f2.f4) := kC_ BK309.1 7; have hfzf_7 := kF_ BK309.1 7; have hczf_8 : wf309.cell? ⟨gb309, 8, none⟩ = some (.int .i64 (rd_T97 l0_3 x9_1).f3.f0.f0) := kC_ BK309.1 8; have hfzf_8 := kF_ BK309.1 8; have hczf_9 : wf309.cell? ⟨gb309, 9, none⟩ = some (.int .i64 (rd_T97 l0_3 x9_1).f3.f0.f1) := kC_ BK309.1 9; have hfzf_9 := kF_ BK309.1 9; have hczf_10 : wf309.cell? ⟨gb309, 10, none⟩ = some (.int .i64 (rd_T97 l0_3 x9_1).f3.f0.f2) := kC_ BK309.1 10; have hfzf_10 := kF_ BK309.1 10; have hczf_11 : wf309.cell? ⟨gb309, 11, none⟩ = some (.int .i64 (rd_T97 l0_3 x9_1).f3.f0.f3) := kC_ BK309.1 11; have hfzf_11 := kF_ BK309.1 11; have hczf_12 : wf309.cell? ⟨gb309, 12, none⟩ = some (.int .i64 (rd_T97 l0_3 x9_1).f3.f1) := kC_ BK309.1 12; have hfzf_12 := kF_ BK309.1 12; have hczf_13 : wf309.cell? ⟨gb309, 13, none⟩ = some (.int .i64 (rd_T97 l0_3 x9_1).f3.f2) := kC_ BK309.1 13; have hfzf_13 := kF_ BK309.1 13; have hczf_14 : wf309.cell? ⟨gb309, 14, none⟩ = some (.int .i64 (rd_T97 l0_3 x9_1).f3.f3) := kC_ BK309.1 14; have hfzf_14 := kF_ BK309.1 14; have hczf_15 : wf309.cell? ⟨gb309, 15, none⟩ = some (.int .i64 (rd_T97 l0_3 x9_1).f3.f4) := kC_ BK309.1 15; have hfzf_15 := kF_ BK309.1 15; have hczf_16 : wf309.cell? ⟨gb309, 16, none⟩ = some (.int .i64 (rd_T97 l0_3 x9_1).f3.f5) := kC_ BK309.1 16; have hfzf_16 := kF_ BK309.1 16; have hczf_17 : wf309.cell? ⟨gb309, 17, none⟩ = some (.slice A308_17 (rd_T97 l0_3 x9_1).f4.length c308_17) := kC_ BK309.1 17; have hfzf_17 := kF_ BK309.1 17; have hczf_18 : wf309.cell? ⟨gb309, 18, none⟩ = some (.int .i64 (rd_T97 l0_3 x9_1).f5) := kC_ BK309.1 18; have hfzf_18 := kF_ BK309.1 18; have hczf_19 : wf309.cell? ⟨gb309, 19, none⟩ = some (.int .i64 (rd_T97 l0_3 x9_1).f6) := kC_ BK309.1 19; have hfzf_19 := kF_ BK309.1 19; have hczf_20 : wf309.cell? ⟨gb309, 20, none⟩ = some (.slice A308_20 (rd_T97 l0_3 x9_1).f7.length c308_20) := kC_ BK309.1 20; have hfzf_20 := kF_ BK309.1 20; have hczf_21 : wf309.cell? ⟨gb309, 21, none⟩ = some (.slice A308_21 (rd_T97 l0_3 x9_1).f8.length c308_21) := kC_ BK309.1 21; have hfzf_21 := kF_ BK309.1 21) | ((with_reducible refine gate_dst (N := 1) rfl ?_); refine box_event ?hg (N := 1) ?hd (cs := #[.slice A0_0 l0_0.length c0_0, .int .i64 a0_1, .int .i64 a0_2, .slice A0_3 l0_3.length c0_3, .int .i64 a0_4, .int .i64 a0_5, .int .i64 a0_6]) (t := 33) ?hr ?_; (case hd => rfl); (case hg => rfl); (case hr => first | (go_simp; done) | (go_simp; rfl)); intro gb307 hg w2 hbox hb; have n0_ := Am_ (bT_ (by repeat (first | (with_reducible first | exact HB.1 | apply bA_ | apply bN_ | apply bD_) | exact HB.1)) hb); have n1_ := Am_ (hbox); have n2_ := Am_ ((by rw [hg]; exact (bZ_ (by repeat (first | (with_reducible first | exact HB.1 | apply bA_ | apply bN_ | apply bD_) | exact HB.1))) : w.heap.size ≤ gb307)); have n3_ := Am_ ((by rw [hg]; exact (bZ_ (by repeat (first | (with_reducible first | exact HB.1 | apply bA_ | apply bN_ | apply bD_) | exact HB.1))) : w.heap.size ≤ gb307)); clear HB; have HB := n0_; have BK307 := n1_; have GW307 := n2_; have GE307 := n3_; clear n0_ n1_ n2_ n3_ hb hbox hg; have hcz3_0 : w2.cell? ⟨gb307, 0, none⟩ = some (.slice A0_0 l0_0.length c0_0) := kC_ BK307.1 0; have hcz3_1 : w2.cell? ⟨gb307, 1, none⟩ = some (.int .i64 a0_1) := kC_ BK307.1 1; have hcz3_2 : w2.cell? ⟨gb307, 2, none⟩ = some (.int .i64 a0_2) := kC_ BK307.1 2; have hcz3_3 : w2.cell? ⟨gb307, 3, none⟩ = some (.slice A0_3 l0_3.length c0_3) := kC_ BK307.1 3; have hcz3_4 : w2.cell? ⟨gb307, 4, none⟩ = some (.int .i64 a0_4) := kC_ BK307.1 4; have hcz3_5 : w2.cell? ⟨gb307, 5, none⟩ = some (.int .i64 a0_5) := kC_ BK307.1 5; have hcz3_6 : w2.cell? ⟨gb307, 6, none⟩ = some (.int .i64 a0_6) := kC_ BK307.1 6; have hfz3_0 := kF_ BK307.1 0; have hfz3_1 := kF_ BK307.1 1; have hfz3_2 := kF_ BK307.1 2; have hfz3_3 := kF_ BK307.1 3; have hfz3_4 := kF_ BK307.1 4; have hfz3_5 := kF_ BK307.1 5; have hfz3_6 := kF_ BK307.1 6))
 repeat (go_quiet (first | ((with_reducible refine gate_dst (N := 12) rfl ?_); refine Go.Proofs.Ytlkofdedkfmaeaa.X.loadL_event ?hg (N := 12) ?hd (t := 97) (p := .tmp 11) ?ho ?hp Try.underlying97 rfl ?hi (fun j u hj => (Below.cell (by repeat (first | (with_reducible first | exact HB.1 | apply bA_ | apply bN_ | apply bD_ | refine bS_ ?_ GE307.1 | refine bS_ ?_ GE309.1) | exact HB.1) : Below w.heap.size w _) (World.block_lt_of_cell? w _ (hx308 j u hj))).trans (hx308 j u hj)) ?_; (case hd => rfl); (case hg => rfl); (case ho => rfl); (case hi => kernel_rfl); (case hp => first | rfl | (go_simp; done) | (go_simp; rfl))) | ((with_reducible refine gate_ (.store 97 (.tmp 5) (.tmp 12)) rfl ?_); refine Go.Proofs.Ytlkofdedkfmaeaa.X.fillL_event ?hg (t := 97) (p := .tmp 5) (v := .tmp 12) ?ho ?hN (g := gb309) (cs := [.slice A308_0 (rd_T97 l0_3 x9_1).f0.f0.length c308_0, .int .i64 (rd_T97 l0_3 x9_1).f0.f1, .bool (rd_T97 l0_3 x9_1).f1, .int .i64 (rd_T97 l0_3 x9_1).f2.f0, .int .i64 (rd_T97 l0_3 x9_1).f2.f1, .int .i64 (rd_T97 l0_3 x9_1).f2.f2, .slice A308_6 (rd_T97 l0_3 x9_1).f2.f3.length c308_6, .bool (rd_T97 l0_3 x9_1).f2.f4, .int .i64 (rd_T97 l0_3 x9_1).f3.f0.f0, .int .i64 (rd_T97 l0_3 x9_1).f3.f0.f1, .int .i64 (rd_T97 l0_3 x9_1).f3.f0.f2, .int .i64 (rd_T97 l0_3 x9_1).f3.f0.f3, .int .i64 (rd_T97 l0_3 x9_1).f3.f1, .int .i64 (rd_T97 l0_3 x9_1).f3.f2, .int .i64 (rd_T97 l0_3 x9_1).f3.f3, .int .i64 (rd_T97 l0_3 x9_1).f3.f4, .int .i64 (rd_T97 l0_3 x9_1).f3.f5, .slice A308_17 (rd_T97 l0_3 x9_1).f4.length c308_17, .int .i64 (rd_T97 l0_3 x9_1).f5, .int .i64 (rd_T97 l0_3 x9_1).f6, .slice A308_20 (rd_T97 l0_3 x9_1).f7.length c308_20, .slice A308_21 (rd_T97 l0_3 x9_1).f8.length c308_21]) ?hp (u := .agg #[.slice A308_0 (rd_T97 l0_3 x9_1).f0.f0.length c308_0, .int .i64 (rd_T97 l0_3 x9_1).f0.f1, .bool (rd_T97 l0_3 x9_1).f1, .int .i64 (rd_T97 l0_3 x9_1).f2.f0, .int .i64 (rd_T97 l0_3 x9_1).f2.f1, .int .i64 (rd_T97 l0_3 x9_1).f2.f2, .slice A308_6 (rd_T97 l0_3 x9_1).f2.f3.length c308_6, .bool (rd_T97 l0_3 x9_1).f2.f4, .int .i64 (rd_T97 l0_3 x9_1).f3.f0.f0, .int .i64 (rd_T97 l0_3 x9_1).f3.f0.f1, .int .i64 (rd_T97 l0_3 x9_1).f3.f0.f2, .int .i64 (rd_T97 l0_3 x9_1).f3.f0.f3, .int .i64 (rd_T97 l0_3 x9_1).f3.f1, .int .i64 (rd_T97 l0_3 x9_1).f3.f2, .int .i64 (rd_T97 l0_3 x9_1).f3.f3, .int .i64 (rd_T97 l0_3 x9_1).f3.f4, .int .i64 (rd_T97 l0_3 x9_1).f3.f5, .slice A308_17 (rd_T97 l0_3 x9_1).f4.length c308_17, .int .i64 (rd_T97 l0_3 x9_1).f5, .int .i64 (rd_T97 l0_3 x9_1).f6, .slice A308_20 (rd_T97 l0_3 x9_1).f7.length c308_20, .slice A308_21 (rd_T97 l0_3 x9_1).f8.length c308_21]) ?hu ?huc BK309.1 ?hsz ?ht ?h1 ?_; (case hg => rfl); (case ho => rfl); (case hN => rfl); (case hp => first | rfl | (go_simp; done) | (go_simp; rfl)); (case hu => first | rfl | (go_simp; done) | (go_simp; rfl)); (case huc => rfl); (case hsz => rfl); (case ht => kernel_rfl); (case h1 => (intro q hq; simp only [List.mem_cons, List.not_mem_nil, or_false] at hq; rcases hq with rfl | rfl | rfl | rfl | rfl | rfl | rfl | rfl | rfl | rfl | rfl | rfl | rfl | rfl | rfl | rfl | rfl | rfl | rfl | rfl | rfl | rfl <;> rfl)); intro wf309 hf1 hf2 hf3; have n0_ := Am_ (Go.Proofs.Ytlkofdedkfmaeaa.X.far_blk BK307.1 NB307_309.1 hf2); have nB_ := Am_ (hf3 _ _ (by repeat (first | (with_reducible first | exact HB.1 | apply bA_ | apply bN_ | apply bD_ | refine bS_ ?_ GE307.1 | refine bS_ ?_ GE309.1) | exact HB.1) : Below w.heap.size w _) GE309.1); clear BK309 HB BK307; have BK307 := n0_; have HB := nB_; have BK309 := Am_ hf1; clear n0_ nB_ hf1 hf2 hf3; have hczf_0 : wf309.cell? ⟨gb309, 0, none⟩ = some (.slice A308_0 (rd_T97 l0_3 x9_1).f0.f0.length c308_0) := kC_ BK309.1 0; have hfzf_0 := kF_ BK309.1 0; have hczf_1 : wf309.cell? ⟨gb309, 1, none⟩ = some (.int .i64 (rd_T97 l0_3 x9_1).f0.f1) := kC_ BK309.1 1; have hfzf_1 := kF_ BK309.1 1; have hczf_2 : wf309.cell? ⟨gb309, 2, none⟩ = some (.bool (rd_T97 l0_3 x9_1).f1) := kC_ BK309.1 2; have hfzf_2 := kF_ BK309.1 2; have hczf_3 : wf309.cell? ⟨gb309, 3, none⟩ = some (.int .i64 (rd_T97 l0_3 x9_1).f2.f0) := kC_ BK309.1 3; have hfzf_3 := kF_ BK309.1 3; have hczf_4 : wf309.cell? ⟨gb309, 4, none⟩ = some (.int .i64 (rd_T97 l0_3 x9_1).f2.f1) := kC_ BK309.1 4; have hfzf_4 := kF_ BK309.1 4; have hczf_5 : wf309.cell? ⟨gb309, 5, none⟩ = some (.int .i64 (rd_T97 l0_3 x9_1).f2.f2) := kC_ BK309.1 5; have hfzf_5 := kF_ BK309.1 5; have hczf_6 : wf309.cell? ⟨gb309, 6, none⟩ = some (.slice A308_6 (rd_T97 l0_3 x9_1).f2.f3.length c308_6) := kC_ BK309.1 6; have hfzf_6 := kF_ BK309.1 6; have hczf_7 : wf309.cell? ⟨gb309, 7, none⟩ = some (.bool (rd_T97 l0_3 x9_1).f2.f4) := kC_ BK309.1 7; have hfzf_7 := kF_ BK309.1 7; have hczf_8 : wf309.cell? ⟨gb309, 8, none⟩ = some (.int .i64 (rd_T97 l0_3 x9_1).f3.f0.f0) := kC_ BK309.1 8; have hfzf_8 := kF_ BK309.1 8; have hczf_9 : wf309.cell? ⟨gb309, 9, none⟩ = some (.int .i64 (rd_T97 l0_3 x9_1).f3.f0.f1) := kC_ BK309.1 9; have hfzf_9 := kF_ BK309.1 9; have hczf_10 : wf309.cell? ⟨gb309, 10, none⟩ = some (.int .i64 (rd_T97 l0_3 x9_1).f3.f0.f2) := kC_ BK309.1 10; have hfzf_10 := kF_ BK309.1 10; have hczf_11 : wf309.cell? ⟨gb309, 11, none⟩ = some (.int .i64 (rd_T97 l0_3 x9_1).f3.f0.f3) := kC_ BK309.1 11; have hfzf_11 := kF_ BK309.1 11; have hczf_12 : wf309.cell? ⟨gb309, 12, none⟩ = some (.int .i64 (rd_T97 l0_3 x9_1).f3.f1) := kC_ BK309.1 12; have hfzf_12 := kF_ BK309.1 12; have hczf_13 : wf309.cell? ⟨gb309, 13, none⟩ = some (.int .i64 (rd_T97 l0_3 x9_1).f3.f2) := kC_ BK309.1 13; have hfzf_13 := kF_ BK309.1 13; have hczf_14 : wf309.cell? ⟨gb309, 14, none⟩ = some (.int .i64 (rd_T97 l0_3 x9_1).f3.f3) := kC_ BK309.1 14; have hfzf_14 := kF_ BK309.1 14; have hczf_15 : wf309.cell? ⟨gb309, 15, none⟩ = some (.int .i64 (rd_T97 l0_3 x9_1).f3.f4) := kC_ BK309.1 15; have hfzf_15 := kF_ BK309.1 15; have hczf_16 : wf309.cell? ⟨gb309, 16, none⟩ = some (.int .i64 (rd_T97 l0_3 x9_1).f3.f5) := kC_ BK309.1 16; have hfzf_16 := kF_ BK309.1 16; have hczf_17 : wf309.cell? ⟨gb309, 17, none⟩ = some (.slice A308_17 (rd_T97 l0_3 x9_1).f4.length c308_17) := kC_ BK309.1 17; have hfzf_17 := kF_ BK309.1 17; have hczf_18 : wf309.cell? ⟨gb309, 18, none⟩ = some (.int .i64 (rd_T97 l0_3 x9_1).f5) := kC_ BK309.1 18; have hfzf_18 := kF_ BK309.1 18; have hczf_19 : wf309.cell? ⟨gb309, 19, none⟩ = some (.int .i64 (rd_T97 l0_3 x9_1).f6) := kC_ BK309.1 19; have hfzf_19 := kF_ BK309.1 19; have hczf_20 : wf309.cell? ⟨gb309, 20, none⟩ = some (.slice A308_20 (rd_T97 l0_3 x9_1).f7.length c308_20) := kC_ BK309.1 20; have hfzf_20 := kF_ BK309.1 20; have hczf_21 : wf309.cell? ⟨gb309, 21, none⟩ = some (.slice A308_21 (rd_T97 l0_3 x9_1).f8.length c308_21) := kC_ BK309.1 21; have hfzf_21 := kF_ BK309.1 21) | ((with_reducible refine gate_dst (N := 1) rfl ?_); refine box_event ?hg (N := 1) ?hd (cs := #[.slice A0_0 l0_0.length c0_0, .int .i64 a0_1, .int .i64 a0_2, .slice A0_3 l0_3.length c0_3, .int .i64 a0_4, .int .i64 a0_5, .int .i64 a0_6]) (t := 33) ?hr ?_; (case hd => rfl); (case hg => rfl); (case hr => first | (go_simp; done) | (go_simp; rfl)); intro gb307 hg w2 hbox hb; have n0_ := Am_ (bT_ (by repeat (first | (with_reducible first | exact HB.1 | apply bA_ | apply bN_ | apply bD_) | exact HB.1)) hb); have n1_ := Am_ (hbox); have n2_ := Am_ ((by rw [hg]; exact (bZ_ (by repeat (first | (with_reducible first | exact HB.1 | apply bA_ | apply bN_ | apply bD_) | exact HB.1))) : w.heap.size ≤ gb307)); have n3_ := Am_ ((by rw [hg]; exact (bZ_ (by repeat (first | (with_reducible first | exact HB.1 | apply bA_ | apply bN_ | apply bD_) | exact HB.1))) : w.heap.size ≤ gb307)); clear HB; have HB := n0_; have BK307 := n1_; have GW307 := n2_; have GE307 := n3_; clear n0_ n1_ n2_ n3_ hb hbox hg; have hcz3_0 : w2.cell? ⟨gb307, 0, none⟩ = some (.slice A0_0 l0_0.length c0_0) := kC_ BK307.1 0; have hcz3_1 : w2.cell? ⟨gb307, 1, none⟩ = some (.int .i64 a0_1) := kC_ BK307.1 1; have hcz3_2 : w2.cell? ⟨gb307, 2, none⟩ = some (.int .i64 a0_2) := kC_ BK307.1 2; have hcz3_3 : w2.cell? ⟨gb307, 3, none⟩ = some (.slice A0_3 l0_3.length c0_3) := kC_ BK307.1 3; have hcz3_4 : w2.cell? ⟨gb307, 4, none⟩ = some (.int .i64 a0_4) := kC_ BK307.1 4; have hcz3_5 : w2.cell? ⟨gb307, 5, none⟩ = some (.int .i64 a0_5) := kC_ BK307.1 5; have hcz3_6 : w2.cell? ⟨gb307, 6, none⟩ = some (.int .i64 a0_6) := kC_ BK307.1 6; have hfz3_0 := kF_ BK307.1 0; have hfz3_1 := kF_ BK307.1 1; have hfz3_2 := kF_ BK307.1 2; have hfz3_3 := kF_ BK307.1 3; have hfz3_4 := kF_ BK307.1 4; have hfz3_5 := kF_ BK307.1 5; have hfz3_6 := kF_ BK307.1 6)); try go_wp2_with (first | ((with_reducible refine gate_dst (N := 12) rfl ?_); refine Go.Proofs.Ytlkofdedkfmaeaa.X.loadL_event ?hg (N := 12) ?hd (t := 97) (p := .tmp 11) ?ho ?hp Try.underlying97 rfl ?hi (fun j u hj => (Below.cell (by repeat (first | (with_reducible first | exact HB.1 | apply bA_ | apply bN_ | apply bD_ | refine bS_ ?_ GE307.1 | refine bS_ ?_ GE309.1) | exact HB.1) : Below w.heap.size w _) (World.block_lt_of_cell? w _ (hx308 j u hj))).trans (hx308 j u hj)) ?_; (case hd => rfl); (case hg => rfl); (case ho => rfl); (case hi => kernel_rfl); (case hp => first | rfl | (go_simp; done) | (go_simp; rfl))) | ((with_reducible refine gate_ (.store 97 (.tmp 5) (.tmp 12)) rfl ?_); refine Go.Proofs.Ytlkofdedkfmaeaa.X.fillL_event ?hg (t := 97) (p := .tmp 5) (v := .tmp 12) ?ho ?hN (g := gb309) (cs := [.slice A308_0 (rd_T97 l0_3 x9_1).f0.f0.length c308_0, .int .i64 (rd_T97 l0_3 x9_1).f0.f1, .bool (rd_T97 l0_3 x9_1).f1, .int .i64 (rd_T97 l0_3 x9_1).f2.f0, .int .i64 (rd_T97 l0_3 x9_1).f2.f1, .int .i64 (rd_T97 l0_3 x9_1).f2.f2, .slice A308_6 (rd_T97 l0_3 x9_1).f2.f3.length c308_6, .bool (rd_T97 l0_3 x9_1).f2.f4, .int .i64 (rd_T97 l0_3 x9_1).f3.f0.f0, .int .i64 (rd_T97 l0_3 x9_1).f3.f0.f1, .int .i64 (rd_T97 l0_3 x9_1).f3.f0.f2, .int .i64 (rd_T97 l0_3 x9_1).f3.f0.f3, .int .i64 (rd_T97 l0_3 x9_1).f3.f1, .int .i64 (rd_T97 l0_3 x9_1).f3.f2, .int .i64 (rd_T97 l0_3 x9_1).f3.f3, .int .i64 (rd_T97 l0_3 x9_1).f3.f4, .int .i64 (rd_T97 l0_3 x9_1).f3.f5, .slice A308_17 (rd_T97 l0_3 x9_1).f4.length c308_17, .int .i64 (rd_T97 l0_3 x9_1).f5, .int .i64 (rd_T97 l0_3 x9_1).f6, .slice A308_20 (rd_T97 l0_3 x9_1).f7.length c308_20, .slice A308_21 (rd_T97 l0_3 x9_1).f8.length c308_21]) ?hp (u := .agg #[.slice A308_0 (rd_T97 l0_3 x9_1).f0.f0.length c308_0, .int .i64 (rd_T97 l0_3 x9_1).f0.f1, .bool (rd_T97 l0_3 x9_1).f1, .int .i64 (rd_T97 l0_3 x9_1).f2.f0, .int .i64 (rd_T97 l0_3 x9_1).f2.f1, .int .i64 (rd_T97 l0_3 x9_1).f2.f2, .slice A308_6 (rd_T97 l0_3 x9_1).f2.f3.length c308_6, .bool (rd_T97 l0_3 x9_1).f2.f4, .int .i64 (rd_T97 l0_3 x9_1).f3.f0.f0, .int .i64 (rd_T97 l0_3 x9_1).f3.f0.f1, .int .i64 (rd_T97 l0_3 x9_1).f3.f0.f2, .int .i64 (rd_T97 l0_3 x9_1).f3.f0.f3, .int .i64 (rd_T97 l0_3 x9_1).f3.f1, .int .i64 (rd_T97 l0_3 x9_1).f3.f2, .int .i64 (rd_T97 l0_3 x9_1).f3.f3, .int .i64 (rd_T97 l0_3 x9_1).f3.f4, .int .i64 (rd_T97 l0_3 x9_1).f3.f5, .slice A308_17 (rd_T97 l0_3 x9_1).f4.length c308_17, .int .i64 (rd_T97 l0_3 x9_1).f5, .int .i64 (rd_T97 l0_3 x9_1).f6, .slice A308_20 (rd_T97 l0_3 x9_1).f7.length c308_20, .slice A308_21 (rd_T97 l0_3 x9_1).f8.length c308_21]) ?hu ?huc BK309.1 ?hsz ?ht ?h1 ?_; (case hg => rfl); (case ho => rfl); (case hN => rfl); (case hp => first | rfl | (go_simp; done) | (go_simp; rfl)); (case hu => first | rfl | (go_simp; done) | (go_simp; rfl)); (case huc => rfl); (case hsz => rfl); (case ht => kernel_rfl); (case h1 => (intro q hq; simp only [List.mem_cons, List.not_mem_nil, or_false] at hq; rcases hq with rfl | rfl | rfl | rfl | rfl | rfl | rfl | rfl | rfl | rfl | rfl | rfl | rfl | rfl | rfl | rfl | rfl | rfl | rfl | rfl | rfl | rfl <;> rfl)); intro wf309 hf1 hf2 hf3; have n0_ := Am_ (Go.Proofs.Ytlkofdedkfmaeaa.X.far_blk BK307.1 NB307_309.1 hf2); have nB_ := Am_ (hf3 _ _ (by repeat (first | (with_reducible first | exact HB.1 | apply bA_ | apply bN_ | apply bD_ | refine bS_ ?_ GE307.1 | refine bS_ ?_ GE309.1) | exact HB.1) : Below w.heap.size w _) GE309.1); clear BK309 HB BK307; have BK307 := n0_; have HB := nB_; have BK309 := Am_ hf1; clear n0_ nB_ hf1 hf2 hf3; have hczf_0 : wf309.cell? ⟨gb309, 0, none⟩ = some (.slice A308_0 (rd_T97 l0_3 x9_1).f0.f0.length c308_0) := kC_ BK309.1 0; have hfzf_0 := kF_ BK309.1 0; have hczf_1 : wf309.cell? ⟨gb309, 1, none⟩ = some (.int .i64 (rd_T97 l0_3 x9_1).f0.f1) := kC_ BK309.1 1; have hfzf_1 := kF_ BK309.1 1; have hczf_2 : wf309.cell? ⟨gb309, 2, none⟩ = some (.bool (rd_T97 l0_3 x9_1).f1) := kC_ BK309.1 2; have hfzf_2 := kF_ BK309.1 2; have hczf_3 : wf309.cell? ⟨gb309, 3, none⟩ = some (.int .i64 (rd_T97 l0_3 x9_1).f2.f0) := kC_ BK309.1 3; have hfzf_3 := kF_ BK309.1 3; have hczf_4 : wf309.cell? ⟨gb309, 4, none⟩ = some (.int .i64 (rd_T97 l0_3 x9_1).f2.f1) := kC_ BK309.1 4; have hfzf_4 := kF_ BK309.1 4; have hczf_5 : wf309.cell? ⟨gb309, 5, none⟩ = some (.int .i64 (rd_T97 l0_3 x9_1).f2.f2) := kC_ BK309.1 5; have hfzf_5 := kF_ BK309.1 5; have hczf_6 : wf309.cell? ⟨gb309, 6, none⟩ = some (.slice A308_6 (rd_T97 l0_3 x9_1).f2.f3.length c308_6) := kC_ BK309.1 6; have hfzf_6 := kF_ BK309.1 6; have hczf_7 : wf309.cell? ⟨gb309, 7, none⟩ = some (.bool (rd_T97 l0_3 x9_1).f2.f4) := kC_ BK309.1 7; have hfzf_7 := kF_ BK309.1 7; have hczf_8 : wf309.cell? ⟨gb309, 8, none⟩ = some (.int .i64 (rd_T97 l0_3 x9_1).f3.f0.f0) := kC_ BK309.1 8; have hfzf_8 := kF_ BK309.1 8; have hczf_9 : wf309.cell? ⟨gb309, 9, none⟩ = some (.int .i64 (rd_T97 l0_3 x9_1).f3.f0.f1) := kC_ BK309.1 9; have hfzf_9 := kF_ BK309.1 9; have hczf_10 : wf309.cell? ⟨gb309, 10, none⟩ = some (.int .i64 (rd_T97 l0_3 x9_1).f3.f0.f2) := kC_ BK309.1 10; have hfzf_10 := kF_ BK309.1 10; have hczf_11 : wf309.cell? ⟨gb309, 11, none⟩ = some (.int .i64 (rd_T97 l0_3 x9_1).f3.f0.f3) := kC_ BK309.1 11; have hfzf_11 := kF_ BK309.1 11; have hczf_12 : wf309.cell? ⟨gb309, 12, none⟩ = some (.int .i64 (rd_T97 l0_3 x9_1).f3.f1) := kC_ BK309.1 12; have hfzf_12 := kF_ BK309.1 12; have hczf_13 : wf309.cell? ⟨gb309, 13, none⟩ = some (.int .i64 (rd_T97 l0_3 x9_1).f3.f2) := kC_ BK309.1 13; have hfzf_13 := kF_ BK309.1 13; have hczf_14 : wf309.cell? ⟨gb309, 14, none⟩ = some (.int .i64 (rd_T97 l0_3 x9_1).f3.f3) := kC_ BK309.1 14; have hfzf_14 := kF_ BK309.1 14; have hczf_15 : wf309.cell? ⟨gb309, 15, none⟩ = some (.int .i64 (rd_T97 l0_3 x9_1).f3.f4) := kC_ BK309.1 15; have hfzf_15 := kF_ BK309.1 15; have hczf_16 : wf309.cell? ⟨gb309, 16, none⟩ = some (.int .i64 (rd_T97 l0_3 x9_1).f3.f5) := kC_ BK309.1 16; have hfzf_16 := kF_ BK309.1 16; have hczf_17 : wf309.cell? ⟨gb309, 17, none⟩ = some (.slice A308_17 (rd_T97 l0_3 x9_1).f4.length c308_17) := kC_ BK309.1 17; have hfzf_17 := kF_ BK309.1 17; have hczf_18 : wf309.cell? ⟨gb309, 18, none⟩ = some (.int .i64 (rd_T97 l0_3 x9_1).f5) := kC_ BK309.1 18; have hfzf_18 := kF_ BK309.1 18; have hczf_19 : wf309.cell? ⟨gb309, 19, none⟩ = some (.int .i64 (rd_T97 l0_3 x9_1).f6) := kC_ BK309.1 19; have hfzf_19 := kF_ BK309.1 19; have hczf_20 : wf309.cell? ⟨gb309, 20, none⟩ = some (.slice A308_20 (rd_T97 l0_3 x9_1).f7.length c308_20) := kC_ BK309.1 20; have hfzf_20 := kF_ BK309.1 20; have hczf_21 : wf309.cell? ⟨gb309, 21, none⟩ = some (.slice A308_21 (rd_T97 l0_3 x9_1).f8.length c308_21) := kC_ BK309.1 21; have hfzf_21 := kF_ BK309.1 21) | ((with_reducible refine gate_dst (N := 1) rfl ?_); refine box_event ?hg (N := 1) ?hd (cs := #[.slice A0_0 l0_0.length c0_0, .int .i64 a0_1, .int .i64 a0_2, .slice A0_3 l0_3.length c0_3, .int .i64 a0_4, .int .i64 a0_5, .int .i64 a0_6]) (t := 33) ?hr ?_; (case hd => rfl); (case hg => rfl); (case hr => first | (go_simp; done) | (go_simp; rfl)); intro gb307 hg w2 hbox hb; have n0_ := Am_ (bT_ (by repeat (first | (with_reducible first | exact HB.1 | apply bA_ | apply bN_ | apply bD_) | exact HB.1)) hb); have n1_ := Am_ (hbox); have n2_ := Am_ ((by rw [hg]; exact (bZ_ (by repeat (first | (with_reducible first | exact HB.1 | apply bA_ | apply bN_ | apply bD_) | exact HB.1))) : w.heap.size ≤ gb307)); have n3_ := Am_ ((by rw [hg]; exact (bZ_ (by repeat (first | (with_reducible first | exact HB.1 | apply bA_ | apply bN_ | apply bD_) | exact HB.1))) : w.heap.size ≤ gb307)); clear HB; have HB := n0_; have BK307 := n1_; have GW307 := n2_; have GE307 := n3_; clear n0_ n1_ n2_ n3_ hb hbox hg; have hcz3_0 : w2.cell? ⟨gb307, 0, none⟩ = some (.slice A0_0 l0_0.length c0_0) := kC_ BK307.1 0; have hcz3_1 : w2.cell? ⟨gb307, 1, none⟩ = some (.int .i64 a0_1) := kC_ BK307.1 1; have hcz3_2 : w2.cell? ⟨gb307, 2, none⟩ = some (.int .i64 a0_2) := kC_ BK307.1 2; have hcz3_3 : w2.cell? ⟨gb307, 3, none⟩ = some (.slice A0_3 l0_3.length c0_3) := kC_ BK307.1 3; have hcz3_4 : w2.cell? ⟨gb307, 4, none⟩ = some (.int .i64 a0_4) := kC_ BK307.1 4; have hcz3_5 : w2.cell? ⟨gb307, 5, none⟩ = some (.int .i64 a0_5) := kC_ BK307.1 5; have hcz3_6 : w2.cell? ⟨gb307, 6, none⟩ = some (.int .i64 a0_6) := kC_ BK307.1 6; have hfz3_0 := kF_ BK307.1 0; have hfz3_1 := kF_ BK307.1 1; have hfz3_2 := kF_ BK307.1 2; have hfz3_3 := kF_ BK307.1 3; have hfz3_4 := kF_ BK307.1 4; have hfz3_5 := kF_ BK307.1 5; have hfz3_6 := kF_ BK307.1 6)))
 go_loopg [3, 9] k (fun kq v3 v9 w' => ∃ (x3_1 : Int) (x9_1 : Int), v3 = .int .i64 x3_1 ∧ v9 = .int .i64 x9_1 ∧ Aside0 (impl_UnfinishedFrames.l0 kq x3_1 l0_3 (l0_3.length : Int) x9_1 = some r) ∧ Aside0 (kq ≤ k) ∧ Aside0 (w'.heap[gb307]? = some (.cells #[(.slice A0_0 l0_0.length c0_0), .int .i64 a0_1, .int .i64 a0_2, (.slice A0_3 l0_3.length c0_3), .int .i64 a0_4, .int .i64 a0_5, .int .i64 a0_6] 33 (0, 0))) ∧ Aside0 (Below w.heap.size w w'))
 case atStart => exact ⟨(0), (0), (by first | rfl | (simp [i64_w]; done) | (simp; done) | (simp [*]; done)), (by first | rfl | (simp [i64_w]; done) | (simp; done) | (simp [*]; done)), H', ⟨Nat.le_refl _⟩, ⟨by (with_reducible repeat (first | refine kN_ ?_ _ | refine kD_ ?_ | refine kA_ ?_ _)); exact BK307.1⟩, ⟨by repeat (first | (with_reducible first | exact HB.1 | apply bA_ | apply bN_ | apply bD_ | refine bS_ ?_ GE307.1) | exact HB.1)⟩⟩
 case round =>
  clear H'
  try clear c1
  try clear p2
  try clear hcz3_0
  try clear hcz3_1
  try clear hcz3_2
  try clear hcz3_3
  try clear hcz3_4
  try clear hcz3_5
  try clear hcz3_6
  try clear hfz3_0
  try clear hfz3_1
  try clear hfz3_2
  try clear hfz3_3
  try clear hfz3_4
  try clear hfz3_5
  try clear hfz3_6
  obtain ⟨x3_1, x9_1, rfl, rfl, HA, HK1, BK307, HB⟩ := hrel
  cases gk with
  | zero => exact absurd HA.1 (by simp [impl_UnfinishedFrames.l0])
  | succ k1 =>
   have H := HA.1
   clear HA
   simp only [impl_UnfinishedFrames.l0] at H
   by_cases c4 : x9_1 < (l0_3.length : Int)
   ·rw [if_pos c4] at H
    have c4b0 : decide (x9_1 < (l0_3.length : Int)) = true := decide_eq_true c4
    clear c4
    by_cases c5 : 0 ≤ x9_1
    ·rw [if_pos c5] at H
     have c5b0 : decide (0 ≤ x9_1) = true := decide_eq_true c5
     clear c5
     by_cases c6 : x9_1 < (l0_3.length : Int)
     ·rw [if_pos c6] at H
      have c6b0 : decide (x9_1 < (l0_3.length : Int)) = true := decide_eq_true c6
      clear c6
      replace H := Option.bind_eq_some_iff.mp H
      obtain ⟨t310, A70, H⟩ := H
      replace H : (impl_UnfinishedFrames.l0 k1 (wrap64 (x3_1 + (wrap64 ((((rd_T97 l0_3 x9_1).f0.f0).length : Int) + t310)))) l0_3 (l0_3.length : Int) (wrap64 (x9_1 + 1))) = some r := H
      have A7 := Am_ A70
      clear A70
      have H' := Am_ H
      clear H
      have p308 : 0 ≤ (x9_1 : Int) := of_decide_eq_true (by first | (with_reducible assumption) | assumption)
      have q308 : x9_1 < (l0_3.length : Int) := of_decide_eq_true (by first | (with_reducible assumption) | assumption)
      obtain ⟨ad308, A308_0, c308_0, A308_6, c308_6, A308_17, c308_17, A308_20, c308_20, A308_21, c308_21, e308, hx308, hl308_0, hi308_0, hl308_6, hi308_6, hl308_17, hi308_17, hl308_20, hi308_20, hl308_21, hi308_21⟩ := atL_T97 HR0_3.1 x9_1 p308 q308
      cases e308
      have HR308_0 := Am_ hi308_0
      have HC308_0 := Am_ hl308_0
      clear hi308_0 hl308_0
      have HR308_6 := Am_ hi308_6
      have HC308_6 := Am_ hl308_6
      clear hi308_6 hl308_6
      have HR308_17 := Am_ hi308_17
      have HC308_17 := Am_ hl308_17
      clear hi308_17 hl308_17
      have HR308_20 := Am_ hi308_20
      have HC308_20 := Am_ hl308_20
      clear hi308_20 hl308_20
      have HR308_21 := Am_ hi308_21
      have HC308_21 := Am_ hl308_21
      clear hi308_21 hl308_21
      replace p308 := eq_true p308
      replace q308 := eq_true q308
      go_wp2_with (first | ((with_reducible refine gate_dst (N := 12) rfl ?_); refine Go.Proofs.Ytlkofdedkfmaeaa.X.loadL_event ?hg (N := 12) ?hd (t := 97) (p := .tmp 11) ?ho ?hp Try.underlying97 rfl ?hi (fun j u hj => (Below.cell (by repeat (first | (with_reducible first | exact HB.1 | apply bA_ | apply bN_ | apply bD_ | refine bS_ ?_ GE307.1 | refine bS_ ?_ GE309.1) | exact HB.1) : Below w.heap.size w _) (World.block_lt_of_cell? w _ (hx308 j u hj))).trans (hx308 j u hj)) ?_; (case hd => rfl); (case hg => rfl); (case ho => rfl); (case hi => kernel_rfl); (case hp => first | rfl | (go_simp; done) | (go_simp; rfl))) | ((with_reducible refine gate_ (.store 97 (.tmp 5) (.tmp 12)) rfl ?_); refine Go.Proofs.Ytlkofdedkfmaeaa.X.fillL_event ?hg (t := 97) (p := .tmp 5) (v := .tmp 12) ?ho ?hN (g := gb309) (cs := [.slice A308_0 (rd_T97 l0_3 x9_1).f0.f0.length c308_0, .int .i64 (rd_T97 l0_3 x9_1).f0.f1, .bool (rd_T97 l0_3 x9_1).f1, .int .i64 (rd_T97 l0_3 x9_1).f2.f0, .int .i64 (rd_T97 l0_3 x9_1).f2.f1, .int .i64 (rd_T97 l0_3 x9_1).f2.f2, .slice A308_6 (rd_T97 l0_3 x9_1).f2.f3.length c308_6, .bool (rd_T97 l0_3 x9_1).f2.f4, .int .i64 (rd_T97 l0_3 x9_1).f3.f0.f0, .int .i64 (rd_T97 l0_3 x9_1).f3.f0.f1, .int .i64 (rd_T97 l0_3 x9_1).f3.f0.f2, .int .i64 (rd_T97 l0_3 x9_1).f3.f0.f3, .int .i64 (rd_T97 l0_3 x9_1).f3.f1, .int .i64 (rd_T97 l0_3 x9_1).f3.f2, .int .i64 (rd_T97 l0_3 x9_1).f3.f3, .int .i64 (rd_T97 l0_3 x9_1).f3.f4, .int .i64 (rd_T97 l0_3 x9_1).f3.f5, .slice A308_17 (rd_T97 l0_3 x9_1).f4.length c308_17, .int .i64 (rd_T97 l0_3 x9_1).f5, .int .i64 (rd_T97 l0_3 x9_1).f6, .slice A308_20 (rd_T97 l0_3 x9_1).f7.length c308_20, .slice A308_21 (rd_T97 l0_3 x9_1).f8.length c308_21]) ?hp (u := .agg #[.slice A308_0 (rd_T97 l0_3 x9_1).f0.f0.length c308_0, .int .i64 (rd_T97 l0_3 x9_1).f0.f1, .bool (rd_T97 l0_3 x9_1).f1, .int .i64 (rd_T97 l0_3 x9_1).f2.f0, .int .i64 (rd_T97 l0_3 x9_1).f2.f1, .int .i64 (rd_T97 l0_3 x9_1).f2.f2, .slice A308_6 (rd_T97 l0_3 x9_1).f2.f3.length c308_6, .bool (rd_T97 l0_3 x9_1).f2.f4, .int .i64 (rd_T97 l0_3 x9_1).f3.f0.f0, .int .i64 (rd_T97 l0_3 x9_1).f3.f0.f1, .int .i64 (rd_T97 l0_3 x9_1).f3.f0.f2, .int .i64 (rd_T97 l0_3 x9_1).f3.f0.f3, .int .i64 (rd_T97 l0_3 x9_1).f3.f1, .int .i64 (rd_T97 l0_3 x9_1).f3.f2, .int .i64 (rd_T97 l0_3 x9_1).f3.f3, .int .i64 (rd_T97 l0_3 x9_1).f3.f4, .int .i64 (rd_T97 l0_3 x9_1).f3.f5, .slice A308_17 (rd_T97 l0_3 x9_1).f4.length c308_17, .int .i64 (rd_T97 l0_3 x9_1).f5, .int .i64 (rd_T97 l0_3 x9_1).f6, .slice A308_20 (rd_T97 l0_3 x9_1).f7.length c308_20, .slice A308_21 (rd_T97 l0_3 x9_1).f8.length c308_21]) ?hu ?huc BK309.1 ?hsz ?ht ?h1 ?_; (case hg => rfl); (case ho => rfl); (case hN => rfl); (case hp => first | rfl | (go_simp; done) | (go_simp; rfl)); (case hu => first | rfl | (go_simp; done) | (go_simp; rfl)); (case huc => rfl); (case hsz => rfl); (case ht => kernel_rfl); (case h1 => (intro q hq; simp only [List.mem_cons, List.not_mem_nil, or_false] at hq; rcases hq with rfl | rfl | rfl | rfl | rfl | rfl | rfl | rfl | rfl | rfl | rfl | rfl | rfl | rfl | rfl | rfl | rfl | rfl | rfl | rfl | rfl | rfl <;> rfl)); intro wf309 hf1 hf2 hf3; have n0_ := Am_ (Go.Proofs.Ytlkofdedkfmaeaa.X.far_blk BK307.1 NB307_309.1 hf2); have nB_ := Am_ (hf3 _ _ (by repeat (first | (with_reducible first | exact HB.1 | apply bA_ | apply bN_ | apply bD_ | refine bS_ ?_ GE307.1 | refine bS_ ?_ GE309.1) | exact HB.1) : Below w.heap.size w _) GE309.1); clear BK309 HB BK307; have BK307 := n0_; have HB := nB_; have BK309 := Am_ hf1; clear n0_ nB_ hf1 hf2 hf3; have hczf_0 : wf309.cell? ⟨gb309, 0, none⟩ = some (.slice A308_0 (rd_T97 l0_3 x9_1).f0.f0.length c308_0) := kC_ BK309.1 0; have hfzf_0 := kF_ BK309.1 0; have hczf_1 : wf309.cell? ⟨gb309, 1, none⟩ = some (.int .i64 (rd_T97 l0_3 x9_1).f0.f1) := kC_ BK309.1 1; have hfzf_1 := kF_ BK309.1 1; have hczf_2 : wf309.cell? ⟨gb309, 2, none⟩ = some (.bool (rd_T97 l0_3 x9_1).f1) := kC_ BK309.1 2; have hfzf_2 := kF_ BK309.1 2; have hczf_3 : wf309.cell? ⟨gb309, 3, none⟩ = some (.int .i64 (rd_T97 l0_3 x9_1).f2.f0) := kC_ BK309.1 3; have hfzf_3 := kF_ BK309.1 3; have hczf_4 : wf309.cell? ⟨gb309, 4, none⟩ = some (.int .i64 (rd_T97 l0_3 x9_1).f2.f1) := kC_ BK309.1 4; have hfzf_4 := kF_ BK309.1 4; have hczf_5 : wf309.cell? ⟨gb309, 5, none⟩ = some (.int .i64 (rd_T97 l0_3 x9_1).f2.f2) := kC_ BK309.1 5; have hfzf_5 := kF_ BK309.1 5; have hczf_6 : wf309.cell? ⟨gb309, 6, none⟩ = some (.slice A308_6 (rd_T97 l0_3 x9_1).f2.f3.length c308_6) := kC_ BK309.1 6; have hfzf_6 := kF_ BK309.1 6; have hczf_7 : wf309.cell? ⟨gb309, 7, none⟩ = some (.bool (rd_T97 l0_3 x9_1).f2.f4) := kC_ BK309.1 7; have hfzf_7 := kF_ BK309.1 7; have hczf_8 : wf309.cell? ⟨gb309, 8, none⟩ = some (.int .i64 (rd_T97 l0_3 x9_1).f3.f0.f0) := kC_ BK309.1 8; have hfzf_8 := kF_ BK309.1 8; have hczf_9 : wf309.cell? ⟨gb309, 9, none⟩ = some (.int .i64 (rd_T97 l0_3 x9_1).f3.f0.f1) := kC_ BK309.1 9; have hfzf_9 := kF_ BK309.1 9; have hczf_10 : wf309.cell? ⟨gb309, 10, none⟩ = some (.int .i64 (rd_T97 l0_3 x9_1).f3.f0.f2) := kC_ BK309.1 10; have hfzf_10 := kF_ BK309.1 10; have hczf_11 : wf309.cell? ⟨gb309, 11, none⟩ = some (.int .i64 (rd_T97 l0_3 x9_1).f3.f0.f3) := kC_ BK309.1 11; have hfzf_11 := kF_ BK309.1 11; have hczf_12 : wf309.cell? ⟨gb309, 12, none⟩ = some (.int .i64 (rd_T97 l0_3 x9_1).f3.f1) := kC_ BK309.1 12; have hfzf_12 := kF_ BK309.1 12; have hczf_13 : wf309.cell? ⟨gb309, 13, none⟩ = some (.int .i64 (rd_T97 l0_3 x9_1).f3.f2) := kC_ BK309.1 13; have hfzf_13 := kF_ BK309.1 13; have hczf_14 : wf309.cell? ⟨gb309, 14, none⟩ = some (.int .i64 (rd_T97 l0_3 x9_1).f3.f3) := kC_ BK309.1 14; have hfzf_14 := kF_ BK309.1 14; have hczf_15 : wf309.cell? ⟨gb309, 15, none⟩ = some (.int .i64 (rd_T97 l0_3 x9_1).f3.f4) := kC_ BK309.1 15; have hfzf_15 := kF_ BK309.1 15; have hczf_16 : wf309.cell? ⟨gb309, 16, none⟩ = some (.int .i64 (rd_T97 l0_3 x9_1).f3.f5) := kC_ BK309.1 16; have hfzf_16 := kF_ BK309.1 16; have hczf_17 : wf309.cell? ⟨gb309, 17, none⟩ = some (.slice A308_17 (rd_T97 l0_3 x9_1).f4.length c308_17) := kC_ BK309.1 17; have hfzf_17 := kF_ BK309.1 17; have hczf_18 : wf309.cell? ⟨gb309, 18, none⟩ = some (.int .i64 (rd_T97 l0_3 x9_1).f5) := kC_ BK309.1 18; have hfzf_18 := kF_ BK309.1 18; have hczf_19 : wf309.cell? ⟨gb309, 19, none⟩ = some (.int .i64 (rd_T97 l0_3 x9_1).f6) := kC_ BK309.1 19; have hfzf_19 := kF_ BK309.1 19; have hczf_20 : wf309.cell? ⟨gb309, 20, none⟩ = some (.slice A308_20 (rd_T97 l0_3 x9_1).f7.length c308_20) := kC_ BK309.1 20; have hfzf_20 := kF_ BK309.1 20; have hczf_21 : wf309.cell? ⟨gb309, 21, none⟩ = some (.slice A308_21 (rd_T97 l0_3 x9_1).f8.length c308_21) := kC_ BK309.1 21; have hfzf_21 := kF_ BK309.1 21) | ((with_reducible refine gate_dst (N := 5) rfl ?_); refine box_event ?hg (N := 5) ?hd (cs := #[.slice none 0 0, .int .i64 0, .bool false, .int .i64 0, .int .i64 0, .int .i64 0, .slice none 0 0, .bool false, .int .i64 0, .int .i64 0, .int .i64 0, .int .i64 0, .int .i64 0, .int .i64 0, .int .i64 0, .int .i64 0, .int .i64 0, .slice none 0 0, .int .i64 0, .int .i64 0, .slice none 0 0, .slice none 0 0]) (t := 97) ?hr ?_; (case hd => rfl); (case hg => rfl); (case hr => first | (go_simp; done) | (go_simp; rfl)); intro gb309 hg w8 hbox hb; have n0_ := Am_ (kB_ (g := gb307) (by (with_reducible repeat (first | refine kN_ ?_ _ | refine kD_ ?_ | refine kA_ ?_ _)); exact BK307.1) hb); have n1_ := Am_ (bT_ (by repeat (first | (with_reducible first | exact HB.1 | apply bA_ | apply bN_ | apply bD_ | refine bS_ ?_ GE307.1) | exact HB.1)) hb); have n2_ := Am_ (hbox); have n3_ := Am_ ((by rw [hg]; exact (bZ_ (by repeat (first | (with_reducible first | exact HB.1 | apply bA_ | apply bN_ | apply bD_ | refine bS_ ?_ GE307.1) | exact HB.1))) : w.heap.size ≤ gb309)); have n4_ := Am_ ((by rw [hg]; exact (bZ_ (by repeat (first | (with_reducible first | exact HB.1 | apply bA_ | apply bN_ | apply bD_ | refine bS_ ?_ GE307.1) | exact HB.1))) : w.heap.size ≤ gb309)); have n5_ := Am_ ((by rw [hg]; exact Nat.ne_of_lt (blk_lt (g := gb307) (by (with_reducible repeat (first | refine kN_ ?_ _ | refine kD_ ?_ | refine kA_ ?_ _)); exact BK307.1)) : gb307 ≠ gb309)); have n6_ := Am_ ((by rw [hg]; exact Nat.ne_of_gt (blk_lt (g := gb307) (by (with_reducible repeat (first | refine kN_ ?_ _ | refine kD_ ?_ | refine kA_ ?_ _)); exact BK307.1)) : gb309 ≠ gb307)); clear BK307 HB; have BK307 := n0_; have HB := n1_; have BK309 := n2_; have GW309 := n3_; have GE309 := n4_; have NB307_309 := n5_; have NB309_307 := n6_; clear n0_ n1_ n2_ n3_ n4_ n5_ n6_ hb hbox hg; have hnb9 := NB309_307.1; have hnc9 := NB307_309.1; have hcz10_0 : w8.cell? ⟨gb309, 0, none⟩ = some (.slice none 0 0) := kC_ BK309.1 0; have hcz10_1 : w8.cell? ⟨gb309, 1, none⟩ = some (.int .i64 0) := kC_ BK309.1 1; have hcz10_2 : w8.cell? ⟨gb309, 2, none⟩ = some (.bool false) := kC_ BK309.1 2; have hcz10_3 : w8.cell? ⟨gb309, 3, none⟩ = some (.int .i64 0) := kC_ BK309.1 3; have hcz10_4 : w8.cell? ⟨gb309, 4, none⟩ = some (.int .i64 0) := kC_ BK309.1 4; have hcz10_5 : w8.cell? ⟨gb309, 5, none⟩ = some (.int .i64 0) := kC_ BK309.1 5; have hcz10_6 : w8.cell? ⟨gb309, 6, none⟩ = some (.slice none 0 0) := kC_ BK309.1 6; have hcz10_7 : w8.cell? ⟨gb309, 7, none⟩ = some (.bool false) := kC_ BK309.1 7; have hcz10_8 : w8.cell? ⟨gb309, 8, none⟩ = some (.int .i64 0) := kC_ BK309.1 8; have hcz10_9 : w8.cell? ⟨gb309, 9, none⟩ = some (.int .i64 0) := kC_ BK309.1 9; have hcz10_10 : w8.cell? ⟨gb309, 10, none⟩ = some (.int .i64 0) := kC_ BK309.1 10; have hcz10_11 : w8.cell? ⟨gb309, 11, none⟩ = some (.int .i64 0) := kC_ BK309.1 11; have hcz10_12 : w8.cell? ⟨gb309, 12, none⟩ = some (.int .i64 0) := kC_ BK309.1 12; have hcz10_13 : w8.cell? ⟨gb309, 13, none⟩ = some (.int .i64 0) := kC_ BK309.1 13; have hcz10_14 : w8.cell? ⟨gb309, 14, none⟩ = some (.int .i64 0) := kC_ BK309.1 14; have hcz10_15 : w8.cell? ⟨gb309, 15, none⟩ = some (.int .i64 0) := kC_ BK309.1 15; have hcz10_16 : w8.cell? ⟨gb309, 16, none⟩ = some (.int .i64 0) := kC_ BK309.1 16; have hcz10_17 : w8.cell? ⟨gb309, 17, none⟩ = some (.slice none 0 0) := kC_ BK309.1 17; have hcz10_18 : w8.cell? ⟨gb309, 18, none⟩ = some (.int .i64 0) := kC_ BK309.1 18; have hcz10_19 : w8.cell? ⟨gb309, 19, none⟩ = some (.int .i64 0) := kC_ BK309.1 19; have hcz10_20 : w8.cell? ⟨gb309, 20, none⟩ = some (.slice none 0 0) := kC_ BK309.1 20; have hcz10_21 : w8.cell? ⟨gb309, 21, none⟩ = some (.slice none 0 0) := kC_ BK309.1 21; have hfz10_0 := kF_ BK309.1 0; have hfz10_1 := kF_ BK309.1 1; have hfz10_2 := kF_ BK309.1 2; have hfz10_3 := kF_ BK309.1 3; have hfz10_4 := kF_ BK309.1 4; have hfz10_5 := kF_ BK309.1 5; have hfz10_6 := kF_ BK309.1 6; have hfz10_7 := kF_ BK309.1 7; have hfz10_8 := kF_ BK309.1 8; have hfz10_9 := kF_ BK309.1 9; have hfz10_10 := kF_ BK309.1 10; have hfz10_11 := kF_ BK309.1 11; have hfz10_12 := kF_ BK309.1 12; have hfz10_13 := kF_ BK309.1 13; have hfz10_14 := kF_ BK309.1 14; have hfz10_15 := kF_ BK309.1 15; have hfz10_16 := kF_ BK309.1 16; have hfz10_17 := kF_ BK309.1 17; have hfz10_18 := kF_ BK309.1 18; have hfz10_19 := kF_ BK309.1 19; have hfz10_20 := kF_ BK309.1 20; have hfz10_21 := kF_ BK309.1 21) | (go_at_call 67; (with_reducible refine (impl_boolToInt.calls ((rd_T97 l0_3 x9_1).f1) t310 _ A7.1).mono ?_); rintro e w' ⟨rfl, ⟨nd, rfl⟩⟩; (try first | exact ⟨rfl, _, World.drewN_drewN _ _ _⟩ | exact ⟨rfl, _, Eq.trans (World.drewN_drewN _ _ _) (congrArg (World.drewN _) (Nat.add_assoc _ _ _))⟩)))
      repeat (go_quiet (first | ((with_reducible refine gate_dst (N := 12) rfl ?_); refine Go.Proofs.Ytlkofdedkfmaeaa.X.loadL_event ?hg (N := 12) ?hd (t := 97) (p := .tmp 11) ?ho ?hp Try.underlying97 rfl ?hi (fun j u hj => (Below.cell (by repeat (first | (with_reducible first | exact HB.1 | apply bA_ | apply bN_ | apply bD_ | refine bS_ ?_ GE307.1 | refine bS_ ?_ GE309.1) | exact HB.1) : Below w.heap.size w _) (World.block_lt_of_cell? w _ (hx308 j u hj))).trans (hx308 j u hj)) ?_; (case hd => rfl); (case hg => rfl); (case ho => rfl); (case hi => kernel_rfl); (case hp => first | rfl | (go_simp; done) | (go_simp; rfl))) | ((with_reducible refine gate_ (.store 97 (.tmp 5) (.tmp 12)) rfl ?_); refine Go.Proofs.Ytlkofdedkfmaeaa.X.fillL_event ?hg (t := 97) (p := .tmp 5) (v := .tmp 12) ?ho ?hN (g := gb309) (cs := [.slice A308_0 (rd_T97 l0_3 x9_1).f0.f0.length c308_0, .int .i64 (rd_T97 l0_3 x9_1).f0.f1, .bool (rd_T97 l0_3 x9_1).f1, .int .i64 (rd_T97 l0_3 x9_1).f2.f0, .int .i64 (rd_T97 l0_3 x9_1).f2.f1, .int .i64 (rd_T97 l0_3 x9_1).f2.f2, .slice A308_6 (rd_T97 l0_3 x9_1).f2.f3.length c308_6, .bool (rd_T97 l0_3 x9_1).f2.f4, .int .i64 (rd_T97 l0_3 x9_1).f3.f0.f0, .int .i64 (rd_T97 l0_3 x9_1).f3.f0.f1, .int .i64 (rd_T97 l0_3 x9_1).f3.f0.f2, .int .i64 (rd_T97 l0_3 x9_1).f3.f0.f3, .int .i64 (rd_T97 l0_3 x9_1).f3.f1, .int .i64 (rd_T97 l0_3 x9_1).f3.f2, .int .i64 (rd_T97 l0_3 x9_1).f3.f3, .int .i64 (rd_T97 l0_3 x9_1).f3.f4, .int .i64 (rd_T97 l0_3 x9_1).f3.f5, .slice A308_17 (rd_T97 l0_3 x9_1).f4.length c308_17, .int .i64 (rd_T97 l0_3 x9_1).f5, .int .i64 (rd_T97 l0_3 x9_1).f6, .slice A308_20 (rd_T97 l0_3 x9_1).f7.length c308_20, .slice A308_21 (rd_T97 l0_3 x9_1).f8.length c308_21]) ?hp (u := .agg #[.slice A308_0 (rd_T97 l0_3 x9_1).f0.f0.length c308_0, .int .i64 (rd_T97 l0_3 x9_1).f0.f1, .bool (rd_T97 l0_3 x9_1).f1, .int .i64 (rd_T97 l0_3 x9_1).f2.f0, .int .i64 (rd_T97 l0_3 x9_1).f2.f1, .int .i64 (rd_T97 l0_3 x9_1).f2.f2, .slice A308_6 (rd_T97 l0_3 x9_1).f2.f3.length c308_6, .bool (rd_T97 l0_3 x9_1).f2.f4, .int .i64 (rd_T97 l0_3 x9_1).f3.f0.f0, .int .i64 (rd_T97 l0_3 x9_1).f3.f0.f1, .int .i64 (rd_T97 l0_3 x9_1).f3.f0.f2, .int .i64 (rd_T97 l0_3 x9_1).f3.f0.f3, .int .i64 (rd_T97 l0_3 x9_1).f3.f1, .int .i64 (rd_T97 l0_3 x9_1).f3.f2, .int .i64 (rd_T97 l0_3 x9_1).f3.f3, .int .i64 (rd_T97 l0_3 x9_1).f3.f4, .int .i64 (rd_T97 l0_3 x9_1).f3.f5, .slice A308_17 (rd_T97 l0_3 x9_1).f4.length c308_17, .int .i64 (rd_T97 l0_3 x9_1).f5, .int .i64 (rd_T97 l0_3 x9_1).f6, .slice A308_20 (rd_T97 l0_3 x9_1).f7.length c308_20, .slice A308_21 (rd_T97 l0_3 x9_1).f8.length c308_21]) ?hu ?huc BK309.1 ?hsz ?ht ?h1 ?_; (case hg => rfl); (case ho => rfl); (case hN => rfl); (case hp => first | rfl | (go_simp; done) | (go_simp; rfl)); (case hu => first | rfl | (go_simp; done) | (go_simp; rfl)); (case huc => rfl); (case hsz => rfl); (case ht => kernel_rfl); (case h1 => (intro q hq; simp only [List.mem_cons, List.not_mem_nil, or_false] at hq; rcases hq with rfl | rfl | rfl | rfl | rfl | rfl | rfl | rfl | rfl | rfl | rfl | rfl | rfl | rfl | rfl | rfl | rfl | rfl | rfl | rfl | rfl | rfl <;> rfl)); intro wf309 hf1 hf2 hf3; have n0_ := Am_ (Go.Proofs.Ytlkofdedkfmaeaa.X.far_blk BK307.1 NB307_309.1 hf2); have nB_ := Am_ (hf3 _ _ (by repeat (first | (with_reducible first | exact HB.1 | apply bA_ | apply bN_ | apply bD_ | refine bS_ ?_ GE307.1 | refine bS_ ?_ GE309.1) | exact HB.1) : Below w.heap.size w _) GE309.1); clear BK309 HB BK307; have BK307 := n0_; have HB := nB_; have BK309 := Am_ hf1; clear n0_ nB_ hf1 hf2 hf3; have hczf_0 : wf309.cell? ⟨gb309, 0, none⟩ = some (.slice A308_0 (rd_T97 l0_3 x9_1).f0.f0.length c308_0) := kC_ BK309.1 0; have hfzf_0 := kF_ BK309.1 0; have hczf_1 : wf309.cell? ⟨gb309, 1, none⟩ = some (.int .i64 (rd_T97 l0_3 x9_1).f0.f1) := kC_ BK309.1 1; have hfzf_1 := kF_ BK309.1 1; have hczf_2 : wf309.cell? ⟨gb309, 2, none⟩ = some (.bool (rd_T97 l0_3 x9_1).f1) := kC_ BK309.1 2; have hfzf_2 := kF_ BK309.1 2; have hczf_3 : wf309.cell? ⟨gb309, 3, none⟩ = some (.int .i64 (rd_T97 l0_3 x9_1).f2.f0) := kC_ BK309.1 3; have hfzf_3 := kF_ BK309.1 3; have hczf_4 : wf309.cell? ⟨gb309, 4, none⟩ = some (.int .i64 (rd_T97 l0_3 x9_1).f2.f1) := kC_ BK309.1 4; have hfzf_4 := kF_ BK309.1 4; have hczf_5 : wf309.cell? ⟨gb309, 5, none⟩ = some (.int .i64 (rd_T97 l0_3 x9_1).f2.f2) := kC_ BK309.1 5; have hfzf_5 := kF_ BK309.1 5; have hczf_6 : wf309.cell? ⟨gb309, 6, none⟩ = some (.slice A308_6 (rd_T97 l0_3 x9_1).f2.f3.length c308_6) := kC_ BK309.1 6; have hfzf_6 := kF_ BK309.1 6; have hczf_7 : wf309.cell? ⟨gb309, 7, none⟩ = some (.bool (rd_T97 l0_3 x9_1).f2.f4) := kC_ BK309.1 7; have hfzf_7 := kF_ BK309.1 7; have hczf_8 : wf309.cell? ⟨gb309, 8, none⟩ = some (.int .i64 (rd_T97 l0_3 x9_1).f3.f0.f0) := kC_ BK309.1 8; have hfzf_8 := kF_ BK309.1 8; have hczf_9 : wf309.cell? ⟨gb309, 9, none⟩ = some (.int .i64 (rd_T97 l0_3 x9_1).f3.f0.f1) := kC_ BK309.1 9; have hfzf_9 := kF_ BK309.1 9; have hczf_10 : wf309.cell? ⟨gb309, 10, none⟩ = some (.int .i64 (rd_T97 l0_3 x9_1).f3.f0.f2) := kC_ BK309.1 10; have hfzf_10 := kF_ BK309.1 10; have hczf_11 : wf309.cell? ⟨gb309, 11, none⟩ = some (.int .i64 (rd_T97 l0_3 x9_1).f3.f0.f3) := kC_ BK309.1 11; have hfzf_11 := kF_ BK309.1 11; have hczf_12 : wf309.cell? ⟨gb309, 12, none⟩ = some (.int .i64 (rd_T97 l0_3 x9_1).f3.f1) := kC_ BK309.1 12; have hfzf_12 := kF_ BK309.1 12; have hczf_13 : wf309.cell? ⟨gb309, 13, none⟩ = some (.int .i64 (rd_T97 l0_3 x9_1).f3.f2) := kC_ BK309.1 13; have hfzf_13 := kF_ BK309.1 13; have hczf_14 : wf309.cell? ⟨gb309, 14, none⟩ = some (.int .i64 (rd_T97 l0_3 x9_1).f3.f3) := kC_ BK309.1 14; have hfzf_14 := kF_ BK309.1 14; have hczf_15 : wf309.cell? ⟨gb309, 15, none⟩ = some (.int .i64 (rd_T97 l0_3 x9_1).f3.f4) := kC_ BK309.1 15; have hfzf_15 := kF_ BK309.1 15; have hczf_16 : wf309.cell? ⟨gb309, 16, none⟩ = some (.int .i64 (rd_T97 l0_3 x9_1).f3.f5) := kC_ BK309.1 16; have hfzf_16 := kF_ BK309.1 16; have hczf_17 : wf309.cell? ⟨gb309, 17, none⟩ = some (.slice A308_17 (rd_T97 l0_3 x9_1).f4.length c308_17) := kC_ BK309.1 17; have hfzf_17 := kF_ BK309.1 17; have hczf_18 : wf309.cell? ⟨gb309, 18, none⟩ = some (.int .i64 (rd_T97 l0_3 x9_1).f5) := kC_ BK309.1 18; have hfzf_18 := kF_ BK309.1 18; have hczf_19 : wf309.cell? ⟨gb309, 19, none⟩ = some (.int .i64 (rd_T97 l0_3 x9_1).f6) := kC_ BK309.1 19; have hfzf_19 := kF_ BK309.1 19; have hczf_20 : wf309.cell? ⟨gb309, 20, none⟩ = some (.slice A308_20 (rd_T97 l0_3 x9_1).f7.length c308_20) := kC_ BK309.1 20; have hfzf_20 := kF_ BK309.1 20; have hczf_21 : wf309.cell? ⟨gb309, 21, none⟩ = some (.slice A308_21 (rd_T97 l0_3 x9_1).f8.length c308_21) := kC_ BK309.1 21; have hfzf_21 := kF_ BK309.1 21) | ((with_reducible refine gate_dst (N := 5) rfl ?_); refine box_event ?hg (N := 5) ?hd (cs := #[.slice none 0 0, .int .i64 0, .bool false, .int .i64 0, .int .i64 0, .int .i64 0, .slice none 0 0, .bool false, .int .i64 0, .int .i64 0, .int .i64 0, .int .i64 0, .int .i64 0, .int .i64 0, .int .i64 0, .int .i64 0, .int .i64 0, .slice none 0 0, .int .i64 0, .int .i64 0, .slice none 0 0, .slice none 0 0]) (t := 97) ?hr ?_; (case hd => rfl); (case hg => rfl); (case hr => first | (go_simp; done) | (go_simp; rfl)); intro gb309 hg w8 hbox hb; have n0_ := Am_ (kB_ (g := gb307) (by (with_reducible repeat (first | refine kN_ ?_ _ | refine kD_ ?_ | refine kA_ ?_ _)); exact BK307.1) hb); have n1_ := Am_ (bT_ (by repeat (first | (with_reducible first | exact HB.1 | apply bA_ | apply bN_ | apply bD_ | refine bS_ ?_ GE307.1) | exact HB.1)) hb); have n2_ := Am_ (hbox); have n3_ := Am_ ((by rw [hg]; exact (bZ_ (by repeat (first | (with_reducible first | exact HB.1 | apply bA_ | apply bN_ | apply bD_ | refine bS_ ?_ GE307.1) | exact HB.1))) : w.heap.size ≤ gb309)); have n4_ := Am_ ((by rw [hg]; exact (bZ_ (by repeat (first | (with_reducible first | exact HB.1 | apply bA_ | apply bN_ | apply bD_ | refine bS_ ?_ GE307.1) | exact HB.1))) : w.heap.size ≤ gb309)); have n5_ := Am_ ((by rw [hg]; exact Nat.ne_of_lt (blk_lt (g := gb307) (by (with_reducible repeat (first | refine kN_ ?_ _ | refine kD_ ?_ | refine kA_ ?_ _)); exact BK307.1)) : gb307 ≠ gb309)); have n6_ := Am_ ((by rw [hg]; exact Nat.ne_of_gt (blk_lt (g := gb307) (by (with_reducible repeat (first | refine kN_ ?_ _ | refine kD_ ?_ | refine kA_ ?_ _)); exact BK307.1)) : gb309 ≠ gb307)); clear BK307 HB; have BK307 := n0_; have HB := n1_; have BK309 := n2_; have GW309 := n3_; have GE309 := n4_; have NB307_309 := n5_; have NB309_307 := n6_; clear n0_ n1_ n2_ n3_ n4_ n5_ n6_ hb hbox hg; have hnb9 := NB309_307.1; have hnc9 := NB307_309.1; have hcz10_0 : w8.cell? ⟨gb309, 0, none⟩ = some (.slice none 0 0) := kC_ BK309.1 0; have hcz10_1 : w8.cell? ⟨gb309, 1, none⟩ = some (.int .i64 0) := kC_ BK309.1 1; have hcz10_2 : w8.cell? ⟨gb309, 2, none⟩ = some (.bool false) := kC_ BK309.1 2; have hcz10_3 : w8.cell? ⟨gb309, 3, none⟩ = some (.int .i64 0) := kC_ BK309.1 3; have hcz10_4 : w8.cell? ⟨gb309, 4, none⟩ = some (.int .i64 0) := kC_ BK309.1 4; have hcz10_5 : w8.cell? ⟨gb309, 5, none⟩ = some (.int .i64 0) := kC_ BK309.1 5; have hcz10_6 : w8.cell? ⟨gb309, 6, none⟩ = some (.slice none 0 0) := kC_ BK309.1 6; have hcz10_7 : w8.cell? ⟨gb309, 7, none⟩ = some (.bool false) := kC_ BK309.1 7; have hcz10_8 : w8.cell? ⟨gb309, 8, none⟩ = some (.int .i64 0) := kC_ BK309.1 8; have hcz10_9 : w8.cell? ⟨gb309, 9, none⟩ = some (.int .i64 0) := kC_ BK309.1 9; have hcz10_10 : w8.cell? ⟨gb309, 10, none⟩ = some (.int .i64 0) := kC_ BK309.1 10; have hcz10_11 : w8.cell? ⟨gb309, 11, none⟩ = some (.int .i64 0) := kC_ BK309.1 11; have hcz10_12 : w8.cell? ⟨gb309, 12, none⟩ = some (.int .i64 0) := kC_ BK309.1 12; have hcz10_13 : w8.cell? ⟨gb309, 13, none⟩ = some (.int .i64 0) := kC_ BK309.1 13; have hcz10_14 : w8.cell? ⟨gb309, 14, none⟩ = some (.int .i64 0) := kC_ BK309.1 14; have hcz10_15 : w8.cell? ⟨gb309, 15, none⟩ = some (.int .i64 0) := kC_ BK309.1 15; have hcz10_16 : w8.cell? ⟨gb309, 16, none⟩ = some (.int .i64 0) := kC_ BK309.1 16; have hcz10_17 : w8.cell? ⟨gb309, 17, none⟩ = some (.slice none 0 0) := kC_ BK309.1 17; have hcz10_18 : w8.cell? ⟨gb309, 18, none⟩ = some (.int .i64 0) := kC_ BK309.1 18; have hcz10_19 : w8.cell? ⟨gb309, 19, none⟩ = some (.int .i64 0) := kC_ BK309.1 19; have hcz10_20 : w8.cell? ⟨gb309, 20, none⟩ = some (.slice none 0 0) := kC_ BK309.1 20; have hcz10_21 : w8.cell? ⟨gb309, 21, none⟩ = some (.slice none 0 0) := kC_ BK309.1 21; have hfz10_0 := kF_ BK309.1 0; have hfz10_1 := kF_ BK309.1 1; have hfz10_2 := kF_ BK309.1 2; have hfz10_3 := kF_ BK309.1 3; have hfz10_4 := kF_ BK309.1 4; have hfz10_5 := kF_ BK309.1 5; have hfz10_6 := kF_ BK309.1 6; have hfz10_7 := kF_ BK309.1 7; have hfz10_8 := kF_ BK309.1 8; have hfz10_9 := kF_ BK309.1 9; have hfz10_10 := kF_ BK309.1 10; have hfz10_11 := kF_ BK309.1 11; have hfz10_12 := kF_ BK309.1 12; have hfz10_13 := kF_ BK309.1 13; have hfz10_14 := kF_ BK309.1 14; have hfz10_15 := kF_ BK309.1 15; have hfz10_16 := kF_ BK309.1 16; have hfz10_17 := kF_ BK309.1 17; have hfz10_18 := kF_ BK309.1 18; have hfz10_19 := kF_ BK309.1 19; have hfz10_20 := kF_ BK309.1 20; have hfz10_21 := kF_ BK309.1 21) | (go_at_call 67; (with_reducible refine (impl_boolToInt.calls ((rd_T97 l0_3 x9_1).f1) t310 _ A7.1).mono ?_); rintro e w' ⟨rfl, ⟨nd, rfl⟩⟩; (try first | exact ⟨rfl, _, World.drewN_drewN _ _ _⟩ | exact ⟨rfl, _, Eq.trans (World.drewN_drewN _ _ _) (congrArg (World.drewN _) (Nat.add_assoc _ _ _))⟩))); try go_wp2_with (first | ((with_reducible refine gate_dst (N := 12) rfl ?_); refine Go.Proofs.Ytlkofdedkfmaeaa.X.loadL_event ?hg (N := 12) ?hd (t := 97) (p := .tmp 11) ?ho ?hp Try.underlying97 rfl ?hi (fun j u hj => (Below.cell (by repeat (first | (with_reducible first | exact HB.1 | apply bA_ | apply bN_ | apply bD_ | refine bS_ ?_ GE307.1 | refine bS_ ?_ GE309.1) | exact HB.1) : Below w.heap.size w _) (World.block_lt_of_cell? w _ (hx308 j u hj))).trans (hx308 j u hj)) ?_; (case hd => rfl); (case hg => rfl); (case ho => rfl); (case hi => kernel_rfl); (case hp => first | rfl | (go_simp; done) | (go_simp; rfl))) | ((with_reducible refine gate_ (.store 97 (.tmp 5) (.tmp 12)) rfl ?_); refine Go.Proofs.Ytlkofdedkfmaeaa.X.fillL_event ?hg (t := 97) (p := .tmp 5) (v := .tmp 12) ?ho ?hN (g := gb309) (cs := [.slice A308_0 (rd_T97 l0_3 x9_1).f0.f0.length c308_0, .int .i64 (rd_T97 l0_3 x9_1).f0.f1, .bool (rd_T97 l0_3 x9_1).f1, .int .i64 (rd_T97 l0_3 x9_1).f2.f0, .int .i64 (rd_T97 l0_3 x9_1).f2.f1, .int .i64 (rd_T97 l0_3 x9_1).f2.f2, .slice A308_6 (rd_T97 l0_3 x9_1).f2.f3.length c308_6, .bool (rd_T97 l0_3 x9_1).f2.f4, .int .i64 (rd_T97 l0_3 x9_1).f3.f0.f0, .int .i64 (rd_T97 l0_3 x9_1).f3.f0.f1, .int .i64 (rd_T97 l0_3 x9_1).f3.f0.f2, .int .i64 (rd_T97 l0_3 x9_1).f3.f0.f3, .int .i64 (rd_T97 l0_3 x9_1).f3.f1, .int .i64 (rd_T97 l0_3 x9_1).f3.f2, .int .i64 (rd_T97 l0_3 x9_1).f3.f3, .int .i64 (rd_T97 l0_3 x9_1).f3.f4, .int .i64 (rd_T97 l0_3 x9_1).f3.f5, .slice A308_17 (rd_T97 l0_3 x9_1).f4.length c308_17, .int .i64 (rd_T97 l0_3 x9_1).f5, .int .i64 (rd_T97 l0_3 x9_1).f6, .slice A308_20 (rd_T97 l0_3 x9_1).f7.length c308_20, .slice A308_21 (rd_T97 l0_3 x9_1).f8.length c308_21]) ?hp (u := .agg #[.slice A308_0 (rd_T97 l0_3 x9_1).f0.f0.length c308_0, .int .i64 (rd_T97 l0_3 x9_1).f0.f1, .bool (rd_T97 l0_3 x9_1).f1, .int .i64 (rd_T97 l0_3 x9_1).f2.f0, .int .i64 (rd_T97 l0_3 x9_1).f2.f1, .int .i64 (rd_T97 l0_3 x9_1).f2.f2, .slice A308_6 (rd_T97 l0_3 x9_1).f2.f3.length c308_6, .bool (rd_T97 l0_3 x9_1).f2.f4, .int .i64 (rd_T97 l0_3 x9_1).f3.f0.f0, .int .i64 (rd_T97 l0_3 x9_1).f3.f0.f1, .int .i64 (rd_T97 l0_3 x9_1).f3.f0.f2, .int .i64 (rd_T97 l0_3 x9_1).f3.f0.f3, .int .i64 (rd_T97 l0_3 x9_1).f3.f1, .int .i64 (rd_T97 l0_3 x9_1).f3.f2, .int .i64 (rd_T97 l0_3 x9_1).f3.f3, .int .i64 (rd_T97 l0_3 x9_1).f3.f4, .int .i64 (rd_T97 l0_3 x9_1).f3.f5, .slice A308_17 (rd_T97 l0_3 x9_1).f4.length c308_17, .int .i64 (rd_T97 l0_3 x9_1).f5, .int .i64 (rd_T97 l0_3 x9_1).f6, .slice A308_20 (rd_T97 l0_3 x9_1).f7.length c308_20, .slice A308_21 (rd_T97 l0_3 x9_1).f8.length c308_21]) ?hu ?huc BK309.1 ?hsz ?ht ?h1 ?_; (case hg => rfl); (case ho => rfl); (case hN => rfl); (case hp => first | rfl | (go_simp; done) | (go_simp; rfl)); (case hu => first | rfl | (go_simp; done) | (go_simp; rfl)); (case huc => rfl); (case hsz => rfl); (case ht => kernel_rfl); (case h1 => (intro q hq; simp only [List.mem_cons, List.not_mem_nil, or_false] at hq; rcases hq with rfl | rfl | rfl | rfl | rfl | rfl | rfl | rfl | rfl | rfl | rfl | rfl | rfl | rfl | rfl | rfl | rfl | rfl | rfl | rfl | rfl | rfl <;> rfl)); intro wf309 hf1 hf2 hf3; have n0_ := Am_ (Go.Proofs.Ytlkofdedkfmaeaa.X.far_blk BK307.1 NB307_309.1 hf2); have nB_ := Am_ (hf3 _ _ (by repeat (first | (with_reducible first | exact HB.1 | apply bA_ | apply bN_ | apply bD_ | refine bS_ ?_ GE307.1 | refine bS_ ?_ GE309.1) | exact HB.1) : Below w.heap.size w _) GE309.1); clear BK309 HB BK307; have BK307 := n0_; have HB := nB_; have BK309 := Am_ hf1; clear n0_ nB_ hf1 hf2 hf3; have hczf_0 : wf309.cell? ⟨gb309, 0, none⟩ = some (.slice A308_0 (rd_T97 l0_3 x9_1).f0.f0.length c308_0) := kC_ BK309.1 0; have hfzf_0 := kF_ BK309.1 0; have hczf_1 : wf309.cell? ⟨gb309, 1, none⟩ = some (.int .i64 (rd_T97 l0_3 x9_1).f0.f1) := kC_ BK309.1 1; have hfzf_1 := kF_ BK309.1 1; have hczf_2 : wf309.cell? ⟨gb309, 2, none⟩ = some (.bool (rd_T97 l0_3 x9_1).f1) := kC_ BK309.1 2; have hfzf_2 := kF_ BK309.1 2; have hczf_3 : wf309.cell? ⟨gb309, 3, none⟩ = some (.int .i64 (rd_T97 l0_3 x9_1).f2.f0) := kC_ BK309.1 3; have hfzf_3 := kF_ BK309.1 3; have hczf_4 : wf309.cell? ⟨gb309, 4, none⟩ = some (.int .i64 (rd_T97 l0_3 x9_1).f2.f1) := kC_ BK309.1 4; have hfzf_4 := kF_ BK309.1 4; have hczf_5 : wf309.cell? ⟨gb309, 5, none⟩ = some (.int .i64 (rd_T97 l0_3 x9_1).f2.f2) := kC_ BK309.1 5; have hfzf_5 := kF_ BK309.1 5; have hczf_6 : wf309.cell? ⟨gb309, 6, none⟩ = some (.slice A308_6 (rd_T97 l0_3 x9_1).f2.f3.length c308_6) := kC_ BK309.1 6; have hfzf_6 := kF_ BK309.1 6; have hczf_7 : wf309.cell? ⟨gb309, 7, none⟩ = some (.bool (rd_T97 l0_3 x9_1).f2.f4) := kC_ BK309.1 7; have hfzf_7 := kF_ BK309.1 7; have hczf_8 : wf309.cell? ⟨gb309, 8, none⟩ = some (.int .i64 (rd_T97 l0_3 x9_1).f3.f0.f0) := kC_ BK309.1 8; have hfzf_8 := kF_ BK309.1 8; have hczf_9 : wf309.cell? ⟨gb309, 9, none⟩ = some (.int .i64 (rd_T97 l0_3 x9_1).f3.f0.f1) := kC_ BK309.1 9; have hfzf_9 := kF_ BK309.1 9; have hczf_10 : wf309.cell? ⟨gb309, 10, none⟩ = some (.int .i64 (rd_T97 l0_3 x9_1).f3.f0.f2) := kC_ BK309.1 10; have hfzf_10 := kF_ BK309.1 10; have hczf_11 : wf309.cell? ⟨gb309, 11, none⟩ = some (.int .i64 (rd_T97 l0_3 x9_1).f3.f0.f3) := kC_ BK309.1 11; have hfzf_11 := kF_ BK309.1 11; have hczf_12 : wf309.cell? ⟨gb309, 12, none⟩ = some (.int .i64 (rd_T97 l0_3 x9_1).f3.f1) := kC_ BK309.1 12; have hfzf_12 := kF_ BK309.1 12; have hczf_13 : wf309.cell? ⟨gb309, 13, none⟩ = some (.int .i64 (rd_T97 l0_3 x9_1).f3.f2) := kC_ BK309.1 13; have hfzf_13 := kF_ BK309.1 13; have hczf_14 : wf309.cell? ⟨gb309, 14, none⟩ = some (.int .i64 (rd_T97 l0_3 x9_1).f3.f3) := kC_ BK309.1 14; have hfzf_14 := kF_ BK309.1 14; have hczf_15 : wf309.cell? ⟨gb309, 15, none⟩ = some (.int .i64 (rd_T97 l0_3 x9_1).f3.f4) := kC_ BK309.1 15; have hfzf_15 := kF_ BK309.1 15; have hczf_16 : wf309.cell? ⟨gb309, 16, none⟩ = some (.int .i64 (rd_T97 l0_3 x9_1).f3.f5) := kC_ BK309.1 16; have hfzf_16 := kF_ BK309.1 16; have hczf_17 : wf309.cell? ⟨gb309, 17, none⟩ = some (.slice A308_17 (rd_T97 l0_3 x9_1).f4.length c308_17) := kC_ BK309.1 17; have hfzf_17 := kF_ BK309.1 17; have hczf_18 : wf309.cell? ⟨gb309, 18, none⟩ = some (.int .i64 (rd_T97 l0_3 x9_1).f5) := kC_ BK309.1 18; have hfzf_18 := kF_ BK309.1 18; have hczf_19 : wf309.cell? ⟨gb309, 19, none⟩ = some (.int .i64 (rd_T97 l0_3 x9_1).f6) := kC_ BK309.1 19; have hfzf_19 := kF_ BK309.1 19; have hczf_20 : wf309.cell? ⟨gb309, 20, none⟩ = some (.slice A308_20 (rd_T97 l0_3 x9_1).f7.length c308_20) := kC_ BK309.1 20; have hfzf_20 := kF_ BK309.1 20; have hczf_21 : wf309.cell? ⟨gb309, 21, none⟩ = some (.slice A308_21 (rd_T97 l0_3 x9_1).f8.length c308_21) := kC_ BK309.1 21; have hfzf_21 := kF_ BK309.1 21) | ((with_reducible refine gate_dst (N := 5) rfl ?_); refine box_event ?hg (N := 5) ?hd (cs := #[.slice none 0 0, .int .i64 0, .bool false, .int .i64 0, .int .i64 0, .int .i64 0, .slice none 0 0, .bool false, .int .i64 0, .int .i64 0, .int .i64 0, .int .i64 0, .int .i64 0, .int .i64 0, .int .i64 0, .int .i64 0, .int .i64 0, .slice none 0 0, .int .i64 0, .int .i64 0, .slice none 0 0, .slice none 0 0]) (t := 97) ?hr ?_; (case hd => rfl); (case hg => rfl); (case hr => first | (go_simp; done) | (go_simp; rfl)); intro gb309 hg w8 hbox hb; have n0_ := Am_ (kB_ (g := gb307) (by (with_reducible repeat (first | refine kN_ ?_ _ | refine kD_ ?_ | refine kA_ ?_ _)); exact BK307.1) hb); have n1_ := Am_ (bT_ (by repeat (first | (with_reducible first | exact HB.1 | apply bA_ | apply bN_ | apply bD_ | refine bS_ ?_ GE307.1) | exact HB.1)) hb); have n2_ := Am_ (hbox); have n3_ := Am_ ((by rw [hg]; exact (bZ_ (by repeat (first | (with_reducible first | exact HB.1 | apply bA_ | apply bN_ | apply bD_ | refine bS_ ?_ GE307.1) | exact HB.1))) : w.heap.size ≤ gb309)); have n4_ := Am_ ((by rw [hg]; exact (bZ_ (by repeat (first | (with_reducible first | exact HB.1 | apply bA_ | apply bN_ | apply bD_ | refine bS_ ?_ GE307.1) | exact HB.1))) : w.heap.size ≤ gb309)); have n5_ := Am_ ((by rw [hg]; exact Nat.ne_of_lt (blk_lt (g := gb307) (by (with_reducible repeat (first | refine kN_ ?_ _ | refine kD_ ?_ | refine kA_ ?_ _)); exact BK307.1)) : gb307 ≠ gb309)); have n6_ := Am_ ((by rw [hg]; exact Nat.ne_of_gt (blk_lt (g := gb307) (by (with_reducible repeat (first | refine kN_ ?_ _ | refine kD_ ?_ | refine kA_ ?_ _)); exact BK307.1)) : gb309 ≠ gb307)); clear BK307 HB; have BK307 := n0_; have HB := n1_; have BK309 := n2_; have GW309 := n3_; have GE309 := n4_; have NB307_309 := n5_; have NB309_307 := n6_; clear n0_ n1_ n2_ n3_ n4_ n5_ n6_ hb hbox hg; have hnb9 := NB309_307.1; have hnc9 := NB307_309.1; have hcz10_0 : w8.cell? ⟨gb309, 0, none⟩ = some (.slice none 0 0) := kC_ BK309.1 0; have hcz10_1 : w8.cell? ⟨gb309, 1, none⟩ = some (.int .i64 0) := kC_ BK309.1 1; have hcz10_2 : w8.cell? ⟨gb309, 2, none⟩ = some (.bool false) := kC_ BK309.1 2; have hcz10_3 : w8.cell? ⟨gb309, 3, none⟩ = some (.int .i64 0) := kC_ BK309.1 3; have hcz10_4 : w8.cell? ⟨gb309, 4, none⟩ = some (.int .i64 0) := kC_ BK309.1 4; have hcz10_5 : w8.cell? ⟨gb309, 5, none⟩ = some (.int .i64 0) := kC_ BK309.1 5; have hcz10_6 : w8.cell? ⟨gb309, 6, none⟩ = some (.slice none 0 0) := kC_ BK309.1 6; have hcz10_7 : w8.cell? ⟨gb309, 7, none⟩ = some (.bool false) := kC_ BK309.1 7; have hcz10_8 : w8.cell? ⟨gb309, 8, none⟩ = some (.int .i64 0) := kC_ BK309.1 8; have hcz10_9 : w8.cell? ⟨gb309, 9, none⟩ = some (.int .i64 0) := kC_ BK309.1 9; have hcz10_10 : w8.cell? ⟨gb309, 10, none⟩ = some (.int .i64 0) := kC_ BK309.1 10; have hcz10_11 : w8.cell? ⟨gb309, 11, none⟩ = some (.int .i64 0) := kC_ BK309.1 11; have hcz10_12 : w8.cell? ⟨gb309, 12, none⟩ = some (.int .i64 0) := kC_ BK309.1 12; have hcz10_13 : w8.cell? ⟨gb309, 13, none⟩ = some (.int .i64 0) := kC_ BK309.1 13; have hcz10_14 : w8.cell? ⟨gb309, 14, none⟩ = some (.int .i64 0) := kC_ BK309.1 14; have hcz10_15 : w8.cell? ⟨gb309, 15, none⟩ = some (.int .i64 0) := kC_ BK309.1 15; have hcz10_16 : w8.cell? ⟨gb309, 16, none⟩ = some (.int .i64 0) := kC_ BK309.1 16; have hcz10_17 : w8.cell? ⟨gb309, 17, none⟩ = some (.slice none 0 0) := kC_ BK309.1 17; have hcz10_18 : w8.cell? ⟨gb309, 18, none⟩ = some (.int .i64 0) := kC_ BK309.1 18; have hcz10_19 : w8.cell? ⟨gb309, 19, none⟩ = some (.int .i64 0) := kC_ BK309.1 19; have hcz10_20 : w8.cell? ⟨gb309, 20, none⟩ = some (.slice none 0 0) := kC_ BK309.1 20; have hcz10_21 : w8.cell? ⟨gb309, 21, none⟩ = some (.slice none 0 0) := kC_ BK309.1 21; have hfz10_0 := kF_ BK309.1 0; have hfz10_1 := kF_ BK309.1 1; have hfz10_2 := kF_ BK309.1 2; have hfz10_3 := kF_ BK309.1 3; have hfz10_4 := kF_ BK309.1 4; have hfz10_5 := kF_ BK309.1 5; have hfz10_6 := kF_ BK309.1 6; have hfz10_7 := kF_ BK309.1 7; have hfz10_8 := kF_ BK309.1 8; have hfz10_9 := kF_ BK309.1 9; have hfz10_10 := kF_ BK309.1 10; have hfz10_11 := kF_ BK309.1 11; have hfz10_12 := kF_ BK309.1 12; have hfz10_13 := kF_ BK309.1 13; have hfz10_14 := kF_ BK309.1 14; have hfz10_15 := kF_ BK309.1 15; have hfz10_16 := kF_ BK309.1 16; have hfz10_17 := kF_ BK309.1 17; have hfz10_18 := kF_ BK309.1 18; have hfz10_19 := kF_ BK309.1 19; have hfz10_20 := kF_ BK309.1 20; have hfz10_21 := kF_ BK309.1 21) | (go_at_call 67; (with_reducible refine (impl_boolToInt.calls ((rd_T97 l0_3 x9_1).f1) t310 _ A7.1).mono ?_); rintro e w' ⟨rfl, ⟨nd, rfl⟩⟩; (try first | exact ⟨rfl, _, World.drewN_drewN _ _ _⟩ | exact ⟨rfl, _, Eq.trans (World.drewN_drewN _ _ _) (congrArg (World.drewN _) (Nat.add_assoc _ _ _))⟩))))
      go_roundg k1
      case measure => have := HK1.1; omega
      case rel => exact ⟨(wrap64 (x3_1 + (wrap64 ((((rd_T97 l0_3 x9_1).f0.f0).length : Int) + t310)))), (wrap64 (x9_1 + 1)), (by first | rfl | (simp [i64_w]; done) | (simp; done) | (simp [*]; done)), (by first | rfl | (simp [i64_w]; done) | (simp; done) | (simp [*]; done)), H', ⟨by have := HK1.1; omega⟩, ⟨by (with_reducible repeat (first | refine kN_ ?_ _ | refine kD_ ?_ | refine kA_ ?_ _)); exact BK307.1⟩, ⟨by repeat (first | (with_reducible first | exact HB.1 | apply bA_ | apply bN_ | apply bD_ | refine bS_ ?_ GE307.1 | refine bS_ ?_ GE309.1) | exact HB.1)⟩⟩
     ·rw [if_neg c6] at H
      exact absurd H (by simp)
    ·rw [if_neg c5] at H
     exact absurd H (by simp)
   ·rw [if_neg c4] at H
    have c4b0 : decide (x9_1 < (l0_3.length : Int)) = false := decide_eq_false c4
    clear c4
    obtain rfl := Option.some.inj H
    go_wp2
    repeat (go_quiet (fail); try go_wp2)
    go_ret
    exact ⟨by first | rfl | (simp [errW_none, errW_some] <;> rfl) | (simp [*, errW_none, errW_some] <;> rfl), by repeat (first | (with_reducible first | exact HB.1 | apply bA_ | apply bN_ | apply bD_ | refine bS_ ?_ GE307.1) | exact HB.1)⟩

/-! ### laws_eqIntS: function 34 -/
def laws_eqIntS.l0 : Nat → List Int → List Int → Int → Option (Bool)
 | 0, _, _, _ => none
 | k + 1, x0, x1, x5 => if x5 < (x0.length : Int) then (if 0 ≤ x5 then (if x5 < (x1.length : Int) then (if (rd x0 x5) = (rd x1 x5) then (laws_eqIntS.l0 k x0 x1 (wrap64 (x5 + 1))) else (some false)) else (none)) else (none)) else (some true)
def laws_eqIntS.f (k : Nat) (l0 : List Int) (l1 : List Int) : Option (Bool) := if (l0.length : Int) = (l1.length : Int) then (laws_eqIntS.l0 k l0 l1 0) else (some false)
theorem laws_eqIntS.mono_l : ∀ k, (∀ y0 y1 y2, LeO (laws_eqIntS.l0 k y0 y1 y2) (laws_eqIntS.l0 (k + 1) y0 y1 y2))
 | 0 => fun _ _ _ r h => by simp [laws_eqIntS.l0] at h
 | k + 1 => by
  have ih0 := laws_eqIntS.mono_l k
  ·intro y0 y1 y2
   unfold laws_eqIntS.l0
   repeat' first
   | (with_reducible exact ih0 _ _ _)
   | (with_reducible exact LeO.refl _)
   | (with_reducible exact LeO.none _)
   | (with_reducible refine LeO.ite ?_ ?_)
   | (with_reducible refine LeO.bind ?_ (fun _ => ?_))
   | exact ih0 _ _ _
   | exact LeO.none _
   | refine LeO.ite ?_ ?_
   | refine LeO.bind ?_ (fun _ => ?_)
theorem laws_eqIntS.mono : ∀ a0 a1 k, LeO (laws_eqIntS.f k a0 a1) (laws_eqIntS.f (k + 1) a0 a1) := by
 intro a0 a1 k
 have ih0 := laws_eqIntS.mono_l k
 unfold laws_eqIntS.f
 repeat' first
   | (with_reducible exact ih0 _ _ _)
   | (with_reducible exact LeO.refl _)
   | (with_reducible exact LeO.none _)
   | (with_reducible refine LeO.ite ?_ ?_)
   | (with_reducible refine LeO.bind ?_ (fun _ => ?_))
   | exact ih0 _ _ _
   | exact LeO.none _
   | refine LeO.ite ?_ ?_
   | refine LeO.bind ?_ (fun _ => ?_)
set_option maxHeartbeats 8000000 in
set_option maxRecDepth 100000 in
theorem laws_eqIntS.calls (k : Nat) (A0 : Option Addr) (c0 : Nat) (l0 : List Int) (A1 : Option Addr) (c1 : Nat) (l1 : List Int) (r : Bool) (w : World) (hr0 : Kd.C (Kd.int .i64) w A0 l0.length l0) (hc0 : l0.length ≤ c0) (hr1 : Kd.C (Kd.int .i64) w A1 l1.length l1) (hc1 : l1.length ≤ c1) (h : laws_eqIntS.f k l0 l1 = some r) (hT : r = true := by rfl) :
  Calls Try.prog 34 #[.slice A0 l0.length c0, .slice A1 l1.length c1] w fun e w' => e = .returned (.bool r) ∧ Drawn0 w w' := by
 have HR0 := Am_ hr0
 have HC0 := Am_ hc0
 clear hr0 hc0
 have HR1 := Am_ hr1
 have HC1 := Am_ hc1
 clear hr1 hc1
 have H : (if (l0.length : Int) = (l1.length : Int) then (laws_eqIntS.l0 k l0 l1 0) else (some false)) = some r := h
 clear h
 by_cases c3 : (l0.length : Int) = (l1.length : Int)
 ·rw [if_pos c3] at H
  have c3b0 : ((l0.length : Int) == (l1.length : Int)) = true := beq_iff_eq.mpr c3
  have c3b1 : ((l0.length : Int) != (l1.length : Int)) = false := bne_eq_false_iff_eq.mpr c3
  have c3b2 : (l0.length == l1.length) = true := by first | simpa using c3 | (simp at c3 ⊢; omega)
  clear c3
  have H' := Am_ H
  clear H
  go_enter Try.func34, Try.ntmps34
  go_wp2
  repeat (go_quiet (fail); try go_wp2)
  go_loopg [5] k (fun kq v5 w' => ∃ (x5_1 : Int), v5 = .int .i64 x5_1 ∧ Aside0 (laws_eqIntS.l0 kq l0 l1 x5_1 = some r) ∧ Aside0 (kq ≤ k) ∧ Drawn0 w w')
  case atStart => exact ⟨(0), (by first | rfl | (simp; done) | (simp [*]; done)), H', ⟨Nat.le_refl _⟩, by repeat (first | exact Drawn0.refl _ | apply Drawn0.step)⟩
  case round =>
   clear H'
   try clear c1
   try clear p2
   try clear c3
   try clear c3b0
   try clear c3b1
   try clear c3b2
   obtain ⟨x5_1, rfl, HA, HK1, ⟨m1, rfl⟩⟩ := hrel
   cases gk with
   | zero => exact absurd HA.1 (by simp [laws_eqIntS.l0])
   | succ k1 =>
    have H := HA.1
    clear HA
    simp only [laws_eqIntS.l0] at H
    by_cases c4 : x5_1 < (l0.length : Int)
    ·rw [if_pos c4] at H
     have c4b0 : decide (x5_1 < (l0.length : Int)) = true := decide_eq_true c4
     clear c4
     by_cases c5 : 0 ≤ x5_1
     ·rw [if_pos c5] at H
      have c5b0 : decide (0 ≤ x5_1) = true := decide_eq_true c5
      clear c5
      by_cases c6 : x5_1 < (l1.length : Int)
      ·rw [if_pos c6] at H
       have c6b0 : decide (x5_1 < (l1.length : Int)) = true := decide_eq_true c6
       clear c6
       by_cases c7 : (rd l0 x5_1) = (rd l1 x5_1)
       ·rw [if_pos c7] at H
        have c7b0 : ((rd l0 x5_1) == (rd l1 x5_1)) = true := beq_iff_eq.mpr c7
        have c7b1 : ((rd l0 x5_1) != (rd l1 x5_1)) = false := bne_eq_false_iff_eq.mpr c7
        clear c7
        have H' := Am_ H
        clear H
        have p311 : 0 ≤ (x5_1 : Int) := of_decide_eq_true (by first | (with_reducible assumption) | assumption)
        have q311 : x5_1 < (l0.length : Int) := of_decide_eq_true (by first | (with_reducible assumption) | assumption)
        obtain ⟨ad311, e311, hx311_0⟩ := Kd.at_int HR0.1 x5_1 p311 q311
        cases e311
        replace p311 := eq_true p311
        replace q311 := eq_true q311
        have p312 : 0 ≤ (x5_1 : Int) := of_decide_eq_true (by first | (with_reducible assumption) | assumption)
        have q312 : x5_1 < (l1.length : Int) := of_decide_eq_true (by first | (with_reducible assumption) | assumption)
        obtain ⟨ad312, e312, hx312_0⟩ := Kd.at_int HR1.1 x5_1 p312 q312
        cases e312
        replace p312 := eq_true p312
        replace q312 := eq_true q312
        go_wp2
        repeat (go_quiet (fail); try go_wp2)
        go_roundg k1
        case measure => have := HK1.1; omega
        case rel => exact ⟨(wrap64 (x5_1 + 1)), (by first | rfl | (simp; done) | (simp [*]; done)), H', ⟨by have := HK1.1; omega⟩, by repeat (first | exact Drawn0.refl _ | apply Drawn0.step)⟩
       ·rw [if_neg c7] at H
        have c7b0 : ((rd l0 x5_1) == (rd l1 x5_1)) = false := beq_eq_false_iff_ne.mpr c7
        have c7b1 : ((rd l0 x5_1) != (rd l1 x5_1)) = true := bne_iff_ne.mpr c7
        obtain rfl := Option.some.inj H
        exact absurd hT (by decide)
      ·rw [if_neg c6] at H
       exact absurd H (by simp)
     ·rw [if_neg c5] at H
      exact absurd H (by simp)
    ·rw [if_neg c4] at H
     have c4b0 : decide (x5_1 < (l0.length : Int)) = false := decide_eq_false c4
     clear c4
     obtain rfl := Option.some.inj H
     go_wp2
     repeat (go_quiet (fail); try go_wp2)
     go_ret
     exact ⟨by first | rfl | (simp; done) | (simp [*]; done), by repeat (first | exact Drawn0.refl _ | apply Drawn0.step)⟩
 ·rw [if_neg c3] at H
  have c3b0 : ((l0.length : Int) == (l1.length : Int)) = false := beq_eq_false_iff_ne.mpr c3
  have c3b1 : ((l0.length : Int) != (l1.length : Int)) = true := bne_iff_ne.mpr c3
  have c3b2 : (l0.length == l1.length) = false := by first | simpa using c3 | (simp at c3 ⊢; omega)
  obtain rfl := Option.some.inj H
  exact absurd hT (by decide)

/-! ### laws_eqPlacement: function 44 -/
def laws_eqPlacement.f (k : Nat) (l0_0 : List Int) (a0_1 : Int) (a0_2 : Int) (l1_0 : List Int) (a1_1 : Int) (a1_2 : Int) : Option (Bool) := (laws_eqIntS.f k l0_0 l1_0).bind fun t315 => (if t315 = true then (if a0_1 = a1_1 then (if a0_2 = a1_2 then (some true) else (some false)) else (some false)) else (some false))
theorem laws_eqPlacement.mono : ∀ a0 a1 a2 a3 a4 a5 k, LeO (laws_eqPlacement.f k a0 a1 a2 a3 a4 a5) (laws_eqPlacement.f (k + 1) a0 a1 a2 a3 a4 a5) := by
 intro a0 a1 a2 a3 a4 a5 k
 unfold laws_eqPlacement.f
 repeat' first
   | (with_reducible exact laws_eqIntS.mono _ _ _)
   | (with_reducible exact LeO.refl _)
   | (with_reducible exact LeO.none _)
   | (with_reducible refine LeO.ite ?_ ?_)
   | (with_reducible refine LeO.bind ?_ (fun _ => ?_))
   | exact laws_eqIntS.mono _ _ _
   | exact LeO.none _
   | refine LeO.ite ?_ ?_
   | refine LeO.bind ?_ (fun _ => ?_)
set_option maxHeartbeats 8000000 in
set_option maxRecDepth 100000 in
theorem laws_eqPlacement.calls (k : Nat) (A0_0 : Option Addr) (c0_0 : Nat) (l0_0 : List Int) (a0_1 : Int) (a0_2 : Int) (A1_0 : Option Addr) (c1_0 : Nat) (l1_0 : List Int) (a1_1 : Int) (a1_2 : Int) (r : Bool) (w : World) (hr0_0 : Kd.C (Kd.int .i64) w A0_0 l0_0.length l0_0) (hc0_0 : l0_0.length ≤ c0_0) (hr1_0 : Kd.C (Kd.int .i64) w A1_0 l1_0.length l1_0) (hc1_0 : l1_0.length ≤ c1_0) (h : laws_eqPlacement.f k l0_0 a0_1 a0_2 l1_0 a1_1 a1_2 = some r) (hT : r = true := by rfl) :
  Calls Try.prog 44 #[.agg #[.slice A0_0 l0_0.length c0_0, .int .i64 a0_1, .int .i64 a0_2], .agg #[.slice A1_0 l1_0.length c1_0, .int .i64 a1_1, .int .i64 a1_2]] w fun e w' => e = .returned (.bool r) ∧ Below w.heap.size w w' := by
 have hu30 := Try.underlying30
 have HR0_0 := Am_ hr0_0
 have HC0_0 := Am_ hc0_0
 clear hr0_0 hc0_0
 have HR1_0 := Am_ hr1_0
 have HC1_0 := Am_ hc1_0
 clear hr1_0 hc1_0
 have HB := Am_ (Below.refl w.heap.size w)
 have H : ((laws_eqIntS.f k l0_0 l1_0).bind fun t315 => (if t315 = true then (if a0_1 = a1_1 then (if a0_2 = a1_2 then (some true) else (some false)) else (some false)) else (some false))) = some r := h
 clear h
 replace H := Option.bind_eq_some_iff.mp H
 obtain ⟨t315, A30, H⟩ := H
 replace H : (if t315 = true then (if a0_1 = a1_1 then (if a0_2 = a1_2 then (some true) else (some false)) else (some false)) else (some false)) = some r := H
 have A3 := Am_ A30
 clear A30
 by_cases c4 : t315 = true
 ·subst c4
  have H1 : (if a0_1 = a1_1 then (if a0_2 = a1_2 then (some true) else (some false)) else (some false)) = some r := by rw [if_pos rfl] at H; exact H
  clear H
  have H := H1
  clear H1
  by_cases c5 : a0_1 = a1_1
  ·rw [if_pos c5] at H
   have c5b0 : (a0_1 == a1_1) = true := beq_iff_eq.mpr c5
   have c5b1 : (a0_1 != a1_1) = false := bne_eq_false_iff_eq.mpr c5
   clear c5
   by_cases c6 : a0_2 = a1_2
   ·rw [if_pos c6] at H
    have c6b0 : (a0_2 == a1_2) = true := beq_iff_eq.mpr c6
    have c6b1 : (a0_2 != a1_2) = false := bne_eq_false_iff_eq.mpr c6
    clear c6
    obtain rfl := Option.some.inj H
    go_enter Try.func44, Try.ntmps44
    go_wp2_with (first | ((with_reducible refine gate_dst (N := 2) rfl ?_); refine box_event ?hg (N := 2) ?hd (cs := #[.slice A0_0 l0_0.length c0_0, .int .i64 a0_1, .int .i64 a0_2]) (t := 30) ?hr ?_; (case hd => rfl); (case hg => rfl); (case hr => first | (go_simp; done) | (go_simp; rfl)); intro gb313 hg w7 hbox hb; have n0_ := Am_ (bT_ (by repeat (first | (with_reducible first | exact HB.1 | apply bA_ | apply bN_ | apply bD_) | exact HB.1)) hb); have n1_ := Am_ (hbox); have n2_ := Am_ ((by rw [hg]; exact (bZ_ (by repeat (first | (with_reducible first | exact HB.1 | apply bA_ | apply bN_ | apply bD_) | exact HB.1))) : w.heap.size ≤ gb313)); have n3_ := Am_ ((by rw [hg]; exact (bZ_ (by repeat (first | (with_reducible first | exact HB.1 | apply bA_ | apply bN_ | apply bD_) | exact HB.1))) : w.heap.size ≤ gb313)); clear HB; have HB := n0_; have BK313 := n1_; have GW313 := n2_; have GE313 := n3_; clear n0_ n1_ n2_ n3_ hb hbox hg) | ((with_reducible refine gate_dst (N := 3) rfl ?_); refine box_event ?hg (N := 3) ?hd (cs := #[.slice A1_0 l1_0.length c1_0, .int .i64 a1_1, .int .i64 a1_2]) (t := 30) ?hr ?_; (case hd => rfl); (case hg => rfl); (case hr => first | (go_simp; done) | (go_simp; rfl)); intro gb314 hg w8 hbox hb; have n0_ := Am_ (kB_ (g := gb313) (by (with_reducible repeat (first | refine kN_ ?_ _ | refine kD_ ?_ | refine kA_ ?_ _)); exact BK313.1) hb); have n1_ := Am_ (bT_ (by repeat (first | (with_reducible first | exact HB.1 | apply bA_ | apply bN_ | apply bD_ | refine bS_ ?_ GE313.1) | exact HB.1)) hb); have n2_ := Am_ (hbox); have n3_ := Am_ ((by rw [hg]; exact (bZ_ (by repeat (first | (with_reducible first | exact HB.1 | apply bA_ | apply bN_ | apply bD_ | refine bS_ ?_ GE313.1) | exact HB.1))) : w.heap.size ≤ gb314)); have n4_ := Am_ ((by rw [hg]; exact (bZ_ (by repeat (first | (with_reducible first | exact HB.1 | apply bA_ | apply bN_ | apply bD_ | refine bS_ ?_ GE313.1) | exact HB.1))) : w.heap.size ≤ gb314)); have n5_ := Am_ ((by rw [hg]; exact Nat.ne_of_lt (blk_lt (g := gb313) (by (with_reducible repeat (first | refine kN_ ?_ _ | refine kD_ ?_ | refine kA_ ?_ _)); exact BK313.1)) : gb313 ≠ gb314)); have n6_ := Am_ ((by rw [hg]; exact Nat.ne_of_gt (blk_lt (g := gb313) (by (with_reducible repeat (first | refine kN_ ?_ _ | refine kD_ ?_ | refine kA_ ?_ _)); exact BK313.1)) : gb314 ≠ gb313)); clear BK313 HB; have BK313 := n0_; have HB := n1_; have BK314 := n2_; have GW314 := n3_; have GE314 := n4_; have NB313_314 := n5_; have NB314_313 := n6_; clear n0_ n1_ n2_ n3_ n4_ n5_ n6_ hb hbox hg; have hnb9 := NB313_314.1; have hnc9 := NB314_313.1; have hcz10_0 : w8.cell? ⟨gb313, 0, none⟩ = some (.slice A0_0 l0_0.length c0_0) := kC_ BK313.1 0; have hcz10_1 : w8.cell? ⟨gb313, 1, none⟩ = some (.int .i64 a0_1) := kC_ BK313.1 1; have hcz10_2 : w8.cell? ⟨gb313, 2, none⟩ = some (.int .i64 a0_2) := kC_ BK313.1 2; have hfz10_0 := kF_ BK313.1 0; have hfz10_1 := kF_ BK313.1 1; have hfz10_2 := kF_ BK313.1 2; have hcz11_0 : w8.cell? ⟨gb314, 0, none⟩ = some (.slice A1_0 l1_0.length c1_0) := kC_ BK314.1 0; have hcz11_1 : w8.cell? ⟨gb314, 1, none⟩ = some (.int .i64 a1_1) := kC_ BK314.1 1; have hcz11_2 : w8.cell? ⟨gb314, 2, none⟩ = some (.int .i64 a1_2) := kC_ BK314.1 2; have hfz11_0 := kF_ BK314.1 0; have hfz11_1 := kF_ BK314.1 1; have hfz11_2 := kF_ BK314.1 2) | ((with_reducible refine gate_callee (f := 34) rfl ?_); refine goesL_ (some 9) rfl rfl Try.func34 (by kernel_rfl) rfl #[.slice A0_0 l0_0.length c0_0, .slice A1_0 l1_0.length c1_0] rfl (by (try simp only [List.map_toArray, List.map_cons, List.map_nil]); first | done | rfl | (simp only [List.length_drop, List.length_take]; rfl)) ?_; (with_reducible refine (laws_eqIntS.calls k _ _ l0_0 _ _ l1_0 true _ ?side1 ?side2 ?side3 ?side4 A3.1).mono ?_); (case side1 => repeat (first | exact (Kd.C_below HR0_0.1 HB.1) | (with_reducible refine Kd.C_alloc ?_ _) | (with_reducible refine Kd.C_drewN ?_ _) | (with_reducible refine Kd.C_drew ?_))); (case side2 => exact HC0_0.1); (case side3 => repeat (first | exact (Kd.C_below HR1_0.1 HB.1) | (with_reducible refine Kd.C_alloc ?_ _) | (with_reducible refine Kd.C_drewN ?_ _) | (with_reducible refine Kd.C_drew ?_))); (case side4 => exact HC1_0.1); rintro e w' ⟨rfl, ⟨nd, rfl⟩⟩; refine ⟨_, rfl, ?_⟩))
    go_ret
    exact ⟨by first | rfl | (simp [errW_none, errW_some] <;> rfl) | (simp [*, errW_none, errW_some] <;> rfl), by repeat (first | (with_reducible first | exact HB.1 | apply bA_ | apply bN_ | apply bD_ | refine bS_ ?_ GE313.1 | refine bS_ ?_ GE314.1) | exact HB.1)⟩
   ·rw [if_neg c6] at H
    have c6b0 : (a0_2 == a1_2) = false := beq_eq_false_iff_ne.mpr c6
    have c6b1 : (a0_2 != a1_2) = true := bne_iff_ne.mpr c6
    obtain rfl := Option.some.inj H
    exact absurd hT (by decide)
  ·rw [if_neg c5] at H
   have c5b0 : (a0_1 == a1_1) = false := beq_eq_false_iff_ne.mpr c5
   have c5b1 : (a0_1 != a1_1) = true := bne_iff_ne.mpr c5
   obtain rfl := Option.some.inj H
   exact absurd hT (by decide)
 ·replace c4 := Bool.eq_false_iff.mpr c4
  subst c4
  have H1 : (some false) = some r := by rw [if_neg (show ¬ (false = true) by decide)] at H; exact H
  clear H
  have H := H1
  clear H1
  obtain rfl := Option.some.inj H
  exact absurd hT (by decide)

end Go.Proofs.Ytlkofdedkfmaeaa.XFnExactUnfinishedFrames
