/- The functions that the law reaches as plain Lean functions, and of each a proof that its call computes it. Conditions: those that each theorem names. -/
import Derived.Test.YtlkofdedkfmaeaaSL
import Derived.Test.YtlkofdedkfmaeaaWS
import Derived.Test.YtlkofdedkfmaeaaWB
import Derived.Test.YtlkofdedkfmaeaaXFnExactDeliveredOncex0
import Derived.Test.YtlkofdedkfmaeaaXFnExactDeliveredOncex2
namespace Go.Proofs.Ytlkofdedkfmaeaa.XFnExactDeliveredOnce
open Go.RowKit Go.Proofs.YtlkofdedkfmaeaaW.PrintWords Go.Proofs.YtlkofdedkfmaeaaW.PrintLast Go.Proofs.YtlkofdedkfmaeaaW.PrintMore Go.Proofs.Ytlkofdedkfmaeaa.X
attribute [local go_sem] max2_int min2_int max_two min_two max_three min_three max_four min_four   -- for this text's walks alone
set_option linter.unusedVariables false
set_option linter.unusedSimpArgs false

/-! ### laws_toAirFrameS: function 139 -/
def laws_toAirFrameS.l0 : Nat → List (S128) → List (S88) → Int → Option ((List (S88)))
 | 0, _, _, _ => none
 | k + 1, x0, x3, x4 => if x4 < (x0.length : Int) then (if 0 ≤ x4 then ((laws_toAirFrame.f k ((rd_T128 x0 x4).f0) ((rd_T128 x0 x4).f1) ((rd_T128 x0 x4).f2) ((rd_T128 x0 x4).f3) ((rd_T128 x0 x4).f4)).bind fun bt187 => (if x4 < (x3.length : Int) then (laws_toAirFrameS.l0 k x0 (x3.set (x4 : Int).toNat (⟨bt187.1, bt187.2.1, bt187.2.2.1, bt187.2.2.2.1, bt187.2.2.2.2⟩ : S88)) (wrap64 (x4 + 1))) else (none))) else (none)) else (some x3)
def laws_toAirFrameS.f (k : Nat) (l0 : List (S128)) : Option ((List (S88))) := if 0 ≤ (l0.length : Int) then (if ((l0.length : Int) : Int).toNat ≤ 5026338869833 then (laws_toAirFrameS.l0 k l0 (List.replicate ((l0.length : Int) : Int).toNat z88) 0) else (none)) else (none)
theorem laws_toAirFrameS.mono_l : ∀ k, (∀ y0 y1 y2, LeO (laws_toAirFrameS.l0 k y0 y1 y2) (laws_toAirFrameS.l0 (k + 1) y0 y1 y2))
 | 0 => fun _ _ _ r h => by simp [laws_toAirFrameS.l0] at h
 | k + 1 => by
  have ih0 := laws_toAirFrameS.mono_l k
  ·intro y0 y1 y2
   unfold laws_toAirFrameS.l0
   repeat' first
   | (with_reducible exact ih0 _ _ _)
   | (with_reducible exact laws_toAirFrame.mono _ _ _ _ _ _)
   | (with_reducible exact LeO.refl _)
   | (with_reducible exact LeO.none _)
   | (with_reducible refine LeO.ite ?_ ?_)
   | (with_reducible refine LeO.bind ?_ (fun _ => ?_))
   | exact ih0 _ _ _
   | exact laws_toAirFrame.mono _ _ _ _ _ _
   | exact LeO.none _
   | refine LeO.ite ?_ ?_
   | refine LeO.bind ?_ (fun _ => ?_)
theorem laws_toAirFrameS.mono : ∀ a0 k, LeO (laws_toAirFrameS.f k a0) (laws_toAirFrameS.f (k + 1) a0) := by
 intro a0 k
 have ih0 := laws_toAirFrameS.mono_l k
 unfold laws_toAirFrameS.f
 repeat' first
   | (with_reducible exact ih0 _ _ _)
   | (with_reducible exact laws_toAirFrame.mono _ _ _ _ _ _)
   | (with_reducible exact LeO.refl _)
   | (with_reducible exact LeO.none _)
   | (with_reducible refine LeO.ite ?_ ?_)
   | (with_reducible refine LeO.bind ?_ (fun _ => ?_))
   | exact ih0 _ _ _
   | exact laws_toAirFrame.mono _ _ _ _ _ _
   | exact LeO.none _
   | refine LeO.ite ?_ ?_
   | refine LeO.bind ?_ (fun _ => ?_)
set_option maxHeartbeats 8000000 in
set_option maxRecDepth 100000 in
theorem laws_toAirFrameS.calls (k : Nat) (A0 : Option Addr) (c0 : Nat) (l0 : List (S128)) (r : List (S88)) (w : World) (hr0 : Kd.C k128 w A0 l0.length l0) (hc0 : l0.length ≤ c0) (h : laws_toAirFrameS.f k l0 = some r) :
  Calls Try.prog 139 #[.slice A0 l0.length c0] w fun e w' => ∃ v0_ : Value, e = .returned (v0_) ∧ Kd.S k88 88 w' w.heap.size (fun _ => True) v0_ r ∧ Below w.heap.size w w' := by
 have hu128 := Try.underlying128
 have hu88 := Try.underlying88
 have HR0 := Am_ hr0
 have HC0 := Am_ hc0
 clear hr0 hc0
 have HB := Am_ (Below.refl w.heap.size w)
 have H : (if 0 ≤ (l0.length : Int) then (if ((l0.length : Int) : Int).toNat ≤ 5026338869833 then (laws_toAirFrameS.l0 k l0 (List.replicate ((l0.length : Int) : Int).toNat z88) 0) else (none)) else (none)) = some r := h
 clear h
 by_cases c2 : 0 ≤ (l0.length : Int)
 ·rw [if_pos c2] at H
  have c2b0 := eq_true c2
  have c2b1 : decide (0 ≤ (l0.length : Int)) = true := decide_eq_true c2
  clear c2
  by_cases c3 : ((l0.length : Int) : Int).toNat ≤ 5026338869833
  ·rw [if_pos c3] at H
   have c3b0 := eq_true c3
   have c3b1 : decide (((l0.length : Int) : Int).toNat ≤ 5026338869833) = true := decide_eq_true c3
   clear c3
   obtain ⟨y183, hy183⟩ : ∃ y_ : List (S88), y_ = (List.replicate ((l0.length : Int) : Int).toNat z88) := ⟨_, rfl⟩
   replace H : (laws_toAirFrameS.l0 k l0 y183 0) = some r := by first | (rw [hy183]; with_reducible exact H) | (have H2_ := (Option.bind_some _ _).symm.trans H; rw [hy183]; with_reducible exact H2_) | (have H2_ := (Option.bind_some _ _).symm.trans H; with_reducible exact H2_) | with_reducible exact H | (rw [hy183]; exact H) | exact H
   have Ny183 := Am_ hy183
   clear hy183
   have H' := Am_ H
   clear H
   go_enter Try.func139, Try.ntmps139
   go_wp2_with (first | ((with_reducible refine gate_dst (N := 7) rfl ?_); refine Kd.S_make k88 _ 88 rfl (N := 7) rfl 93 _ _ rfl (l0.length : Int) rfl rfl Try.underlying93 (.agg #[(.int .i64 0), (.int .i64 0), (.int .i64 0), (.slice none 0 0), (.bool false)]) 56 info88 rfl (by decide) (by omega) z88 (ok := fun _ => True) (okp := fun _ => True) (k88_mkM _ _ _ z88 (Kd.R_nil _ _ _ _ _)) (fun _ hk => hk) trivial (of_decide_eq_true (by first | (with_reducible assumption) | assumption)) (Nat.le_trans (Nat.mul_le_mul_right _ (of_decide_eq_true (by first | (with_reducible assumption) | assumption) : (l0.length : Int).toNat ≤ 5026338869833)) (by omega)) (Below.refl _ _) (Nat.le_refl _) ?_; intro v184 w4 ho5 hb hg_ hnew_; clear hg_ hnew_; (first | rw [← Ny183.1] at ho5 | (simp only [Int.reduceToNat] at ho5; rw [← Ny183.1] at ho5)); have n0_ := Am_ (Kd.S_lower ho5 (bZ_ (by repeat (first | (with_reducible first | exact HB.1 | apply bA_ | apply bN_ | apply bD_) | exact HB.1)))); have n1_ := Am_ (bT_ (by repeat (first | (with_reducible first | exact HB.1 | apply bA_ | apply bN_ | apply bD_) | exact HB.1)) hb); clear HB; have HO185 := n0_; have HB := n1_; clear n0_ n1_ hb ho5))
   go_loopg [4] k (fun kq v4 w' => ∃ (x3_1 : List (S88)) (x4_1 : Int), v4 = .int .i64 x4_1 ∧ Aside0 (laws_toAirFrameS.l0 kq l0 x3_1 x4_1 = some r) ∧ Aside0 (kq ≤ k) ∧ Aside0 (Kd.S k88 88 w' w.heap.size (fun _ => True) v184 x3_1) ∧ Aside0 (Below w.heap.size w w'))
   case atStart => exact ⟨(y183), (0), (by first | rfl | (simp; done) | (simp [*]; done)), H', ⟨Nat.le_refl _⟩, ⟨by (with_reducible repeat (first | apply Kd.S_alloc | apply Kd.S_drewN | apply Kd.S_drew)); exact HO185.1⟩, ⟨by repeat (first | (with_reducible first | exact HB.1 | apply bA_ | apply bN_ | apply bD_) | exact HB.1)⟩⟩
   case round =>
    clear H'
    try clear c1
    try clear c2
    try clear c2b0
    try clear c2b1
    try clear p2
    try clear c3
    try clear c3b0
    try clear c3b1
    obtain ⟨x3_1, x4_1, rfl, HA, HK1, HO_3, HB⟩ := hrel
    cases gk with
    | zero => exact absurd HA.1 (by simp [laws_toAirFrameS.l0])
    | succ k1 =>
     have H := HA.1
     clear HA
     simp only [laws_toAirFrameS.l0] at H
     by_cases c6 : x4_1 < (l0.length : Int)
     ·rw [if_pos c6] at H
      have c6b0 : decide (x4_1 < (l0.length : Int)) = true := decide_eq_true c6
      clear c6
      by_cases c7 : 0 ≤ x4_1
      ·rw [if_pos c7] at H
       have c7b0 : decide (0 ≤ x4_1) = true := decide_eq_true c7
       clear c7
       replace H := Option.bind_eq_some_iff.mp H
       obtain ⟨⟨t187, t188, t189, t190, t193⟩, A80, H⟩ := H
       replace H : (if x4_1 < (x3_1.length : Int) then (laws_toAirFrameS.l0 k1 l0 (x3_1.set (x4_1 : Int).toNat (⟨t187, t188, t189, t190, t193⟩ : S88)) (wrap64 (x4_1 + 1))) else (none)) = some r := H
       have A8 := Am_ A80
       clear A80
       by_cases c9 : x4_1 < (x3_1.length : Int)
       ·rw [if_pos c9] at H
        have c9b0 : decide (x4_1 < (x3_1.length : Int)) = true := decide_eq_true c9
        clear c9
        obtain ⟨y194, hy194⟩ : ∃ y_ : List (S88), y_ = (x3_1.set (x4_1 : Int).toNat (⟨t187, t188, t189, t190, t193⟩ : S88)) := ⟨_, rfl⟩
        replace H : (laws_toAirFrameS.l0 k1 l0 y194 (wrap64 (x4_1 + 1))) = some r := by first | (rw [hy194]; with_reducible exact H) | (have H2_ := (Option.bind_some _ _).symm.trans H; rw [hy194]; with_reducible exact H2_) | (have H2_ := (Option.bind_some _ _).symm.trans H; with_reducible exact H2_) | with_reducible exact H | (rw [hy194]; exact H) | exact H
        have Ny194 := Am_ hy194
        clear hy194
        have H' := Am_ H
        clear H
        have p186 : 0 ≤ (x4_1 : Int) := of_decide_eq_true (by first | (with_reducible assumption) | assumption)
        have q186 : x4_1 < (l0.length : Int) := of_decide_eq_true (by first | (with_reducible assumption) | assumption)
        obtain ⟨ad186, A186_3, c186_3, e186, hx186_0, hx186_1, hx186_2, hx186_3, hx186_4, hl186_3, hi186_3⟩ := at_T128 HR0.1 x4_1 p186 q186
        cases e186
        replace hx186_0 := (HB.1.cell (World.block_lt_of_cell? w _ hx186_0)).trans hx186_0
        replace hx186_1 := (HB.1.cell (World.block_lt_of_cell? w _ hx186_1)).trans hx186_1
        replace hx186_2 := (HB.1.cell (World.block_lt_of_cell? w _ hx186_2)).trans hx186_2
        replace hx186_3 := (HB.1.cell (World.block_lt_of_cell? w _ hx186_3)).trans hx186_3
        replace hx186_4 := (HB.1.cell (World.block_lt_of_cell? w _ hx186_4)).trans hx186_4
        have HR186_3 := Am_ hi186_3
        have HC186_3 := Am_ hl186_3
        clear hi186_3 hl186_3
        replace p186 := eq_true p186
        replace q186 := eq_true q186
        go_wp2_with (first | ((with_reducible refine gate_callee (f := 137) rfl ?_); refine goesL_ (some 20) rfl rfl Try.func137 (by kernel_rfl) rfl #[.agg #[.int .i64 ((rd_T128 l0 x4_1).f0), .int .i64 ((rd_T128 l0 x4_1).f1), .int .i64 ((rd_T128 l0 x4_1).f2), .slice A186_3 ((rd_T128 l0 x4_1).f3).length c186_3, .bool ((rd_T128 l0 x4_1).f4)]] rfl (by (try simp only [List.map_toArray, List.map_cons, List.map_nil]); first | done | rfl | (simp only [List.length_drop, List.length_take]; rfl)) ?_; (with_reducible refine (laws_toAirFrame.calls k1 ((rd_T128 l0 x4_1).f0) ((rd_T128 l0 x4_1).f1) ((rd_T128 l0 x4_1).f2) _ _ ((rd_T128 l0 x4_1).f3) ((rd_T128 l0 x4_1).f4) t187 t188 t189 t190 t193 _ ?side1 ?side2 A8.1).mono ?_); (case side1 => repeat (first | exact (Kd.C_below HR186_3.1 HB.1) | (with_reducible refine Kd.C_alloc ?_ _) | (with_reducible refine Kd.C_drewN ?_ _) | (with_reducible refine Kd.C_drew ?_))); (case side2 => exact HC186_3.1); rintro e w11 ⟨v191, rfl, ho0, hb⟩; refine ⟨_, rfl, ?_⟩; have n0_ := Am_ (Kd.S_elder' (by (with_reducible repeat (first | apply Kd.S_alloc | apply Kd.S_drewN | apply Kd.S_drew)); exact HO_3.1) (Kd.R_base ho0) hb); have n1_ := Am_ (Kd.R_lower ho0 (bZ_ (by repeat (first | (with_reducible first | exact HB.1 | apply bA_ | apply bN_ | apply bD_) | exact HB.1)))); have n2_ := Am_ (bT_ (by repeat (first | (with_reducible first | exact HB.1 | apply bA_ | apply bN_ | apply bD_) | exact HB.1)) hb); clear HO_3 HB; have HO_3 := n0_; have HO192 := n1_; have HB := n2_; clear n0_ n1_ n2_; (try clear hb); (try clear hb2); (try clear hk); (try clear hi); (try clear ho0); have p10 : 0 ≤ (x4_1 : Int) := of_decide_eq_true (by first | (with_reducible assumption) | assumption); have q10 : (x4_1 : Int) < ((x3_1.length : Int) : Int) := of_decide_eq_true (by first | (with_reducible assumption) | assumption); obtain ⟨go10, co10, eo10, gb10, gl10, cl10, HG10⟩ := Kd.S_form HO_3.1 (by omega); (first | cases eo10 | (injection eo10 with ea_ en_ ec_; (first | subst ea_ | (injection ea_ with ea_; subst ea_)); subst ec_; clear en_)); have GB10 := Am_ gb10; have GG10 := Am_ HG10; clear gb10 gl10 HG10; obtain ⟨_, ce10, hcl10, hM10, hcc10, hfr10, _, _⟩ := Kd.S_elem HO_3.1 z88 (x4_1 : Int) p10 q10; obtain ⟨ve10_3, rfl, ge10_3⟩ := k88_openM hM10; have hx10_0 : w11.cell? ⟨go10, (x4_1 : Int).toNat * 5, none⟩ = some (.int .i64 ((rd_T88 x3_1 x4_1).f0)) := hcc10 0 _ rfl; have hx10_1 : w11.cell? ⟨go10, (x4_1 : Int).toNat * 5 + 1, none⟩ = some (.int .i64 ((rd_T88 x3_1 x4_1).f1)) := hcc10 1 _ rfl; have hx10_2 : w11.cell? ⟨go10, (x4_1 : Int).toNat * 5 + 2, none⟩ = some (.int .i64 ((rd_T88 x3_1 x4_1).f2)) := hcc10 2 _ rfl; have hx10_3 : w11.cell? ⟨go10, (x4_1 : Int).toNat * 5 + 3, none⟩ = some (ve10_3) := hcc10 3 _ rfl; have hx10_4 : w11.cell? ⟨go10, (x4_1 : Int).toNat * 5 + 4, none⟩ = some (.bool ((rd_T88 x3_1 x4_1).f4)) := hcc10 4 _ rfl; have hf10_0 : w11.frozen? ⟨go10, (x4_1 : Int).toNat * 5, none⟩ = false := hfr10 0; have hf10_1 : w11.frozen? ⟨go10, (x4_1 : Int).toNat * 5 + 1, none⟩ = false := hfr10 1; have hf10_2 : w11.frozen? ⟨go10, (x4_1 : Int).toNat * 5 + 2, none⟩ = false := hfr10 2; have hf10_3 : w11.frozen? ⟨go10, (x4_1 : Int).toNat * 5 + 3, none⟩ = false := hfr10 3; have hf10_4 : w11.frozen? ⟨go10, (x4_1 : Int).toNat * 5 + 4, none⟩ = false := hfr10 4; clear hcl10 hcc10 hfr10 hM10; replace p10 := eq_true p10; replace q10 := eq_true q10; have n_ := Am_ (Kd.S_mono (ok' := (fun k_ => some k_ ≠ (v191 : Value).ownBlock)) HO_3.1 (fun k_ hk => hk.2)); clear HO_3; have HO_3 := n_; clear n_; have HX12 := Am_ (show Kd.S k88 88 w11 w.heap.size (fun k_ => ((fun _ => True)) k_ ∧ ¬ ((fun k_ => some k_ = (v191 : Value).ownBlock)) k_) (.slice (some ⟨go10, 0, none⟩) x3_1.length co10) x3_1 from (by (with_reducible repeat (first | apply Kd.S_alloc | apply Kd.S_drewN | apply Kd.S_drew)); exact Kd.S_mono HO_3.1 (fun k_ hk => ⟨trivial, fun e_ => hk e_⟩))); obtain ⟨oki12, ce12, hcl12, hM12, hcc12, hfr12, hoki12, hH12⟩ := Kd.S_elem HX12.out z88 (x4_1 : Int) (of_decide_eq_true (by first | (with_reducible assumption) | assumption)) (by have h_ : (x4_1 : Int) < ((x3_1.length : Int) : Int) := of_decide_eq_true (by first | (with_reducible assumption) | assumption); first | exact h_ | (have e_ := (Kd.S_reads' HO_3.1).1; omega) | simpa using h_); obtain ⟨ve12_3, rfl, ge12_3⟩ := k88_openM hM12; have HP12 := Kd.S_seg hH12 (of_decide_eq_true (by first | (with_reducible assumption) | assumption)) (by have h_ : (x4_1 : Int) < ((x3_1.length : Int) : Int) := of_decide_eq_true (by first | (with_reducible assumption) | assumption); first | exact h_ | (have e_ := (Kd.S_reads' HO_3.1).1; omega) | simpa using h_) (seg := [.int .i64 t187, .int .i64 t188, .int .i64 t189, v191, .bool t193]) (j := 0) (show 5 ≤ 5 from by decide) (x' := (⟨t187, t188, t189, t190, t193⟩ : S88)) (k88_mkM _ _ _ (⟨t187, t188, t189, t190, t193⟩ : S88) (Kd.R_mono (Kd.R_tight rfl (Kd.R_mono (ok' := fun k_ => ((fun _ => True)) k_ ∧ k_ ≠ go10) (Kd.R_apart' (HO192.1) (Kd.S_typed HO_3.1) (by decide)) (fun k_ hk => ⟨trivial, fun e_ => (hk.2) (by rw [e_]; rfl)⟩))) (fun _ h_ => Or.inr (h_)))) (fun _ hk => hk) (fun k_ hk_ => ((Kd.R_mono (ok' := fun k_ => ((fun _ => True)) k_ ∧ k_ ≠ go10) (Kd.R_apart' (HO192.1) (Kd.S_typed HO_3.1) (by decide)) (fun k_ hk => ⟨trivial, fun e_ => (hk.2) (by rw [e_]; rfl)⟩))).1 k_ hk_.symm); have hx12_0 := hcc12 0 _ rfl; (try simp only [show (k88).sz = 5 from rfl, Nat.mul_one, Nat.add_zero] at hx12_0); have hf12_0 := hfr12 0; (try simp only [show (k88).sz = 5 from rfl, Nat.mul_one, Nat.add_zero] at hf12_0); have hx12_1 := hcc12 1 _ rfl; (try simp only [show (k88).sz = 5 from rfl, Nat.mul_one, Nat.add_zero] at hx12_1); have hf12_1 := hfr12 1; (try simp only [show (k88).sz = 5 from rfl, Nat.mul_one, Nat.add_zero] at hf12_1); have hx12_2 := hcc12 2 _ rfl; (try simp only [show (k88).sz = 5 from rfl, Nat.mul_one, Nat.add_zero] at hx12_2); have hf12_2 := hfr12 2; (try simp only [show (k88).sz = 5 from rfl, Nat.mul_one, Nat.add_zero] at hf12_2); have hx12_3 := hcc12 3 _ rfl; (try simp only [show (k88).sz = 5 from rfl, Nat.mul_one, Nat.add_zero] at hx12_3); have hf12_3 := hfr12 3; (try simp only [show (k88).sz = 5 from rfl, Nat.mul_one, Nat.add_zero] at hf12_3); have hx12_4 := hcc12 4 _ rfl; (try simp only [show (k88).sz = 5 from rfl, Nat.mul_one, Nat.add_zero] at hx12_4); have hf12_4 := hfr12 4; (try simp only [show (k88).sz = 5 from rfl, Nat.mul_one, Nat.add_zero] at hf12_4); clear hcl12 hcc12 hfr12 hM12 hoki12 hH12) | ((with_reducible refine gate_store (t := 88) (p := 21) rfl ?_); refine store_event (t := 88) (p := 21) (v := ?vo_w13) (w1 := (((((w11.setCell ⟨go10, (x4_1 : Int).toNat * 5, none⟩ (.int .i64 t187)).setCell ⟨go10, (x4_1 : Int).toNat * 5 + 1, none⟩ (.int .i64 t188)).setCell ⟨go10, (x4_1 : Int).toNat * 5 + 2, none⟩ (.int .i64 t189)).setCell ⟨go10, (x4_1 : Int).toNat * 5 + 3, none⟩ (v191)).setCell ⟨go10, (x4_1 : Int).toNat * 5 + 4, none⟩ (.bool t193))) ?hg ?ho ?hn ?hr ?_; (case ho => rfl); (case hg => rfl); (case hn => rfl); (case hr => first | (go_simp; done) | (go_simp; rfl) | (obtain ⟨_, _, _, hsh0_⟩ := (show ∃ A n c, v191 = Value.slice A n c from by first | exact Go.Proofs.Ytlkofdedkfmaeaa.X.R_shape HO185.1 | exact Go.Proofs.Ytlkofdedkfmaeaa.X.R_shape (Kd.S_R HO185.1) | exact Go.Proofs.Ytlkofdedkfmaeaa.X.R_shape HO192.1 | exact Go.Proofs.Ytlkofdedkfmaeaa.X.R_shape (Kd.S_R HO192.1)); cases hsh0_; first | (go_simp; done) | (go_simp; rfl))); intro w13 hw; have hg : w11.grownBy w13 (some go10) := (by rw [hw]; exact HP12.2); have hp_ : Kd.S k88 88 w13 w.heap.size (fun _ => True) (.slice (some ⟨go10, 0, none⟩) x3_1.length co10) y194 := (by rw [hw, Ny194.1]; exact HP12.1); clear HP12; have n0_ := Am_ (hp_); have n1_ := Am_ ((by rw [hw]; exact bS_ (bS_ (bS_ (bS_ (bS_ (HB.1) GB10.out) GB10.out) GB10.out) GB10.out) GB10.out : Below w.heap.size w w13)); clear HO_3 HB HO192; have HO_3 := n0_; have HB := n1_; clear n0_ n1_ hg hw hp_))
        go_roundg k1
        case measure => have := HK1.1; omega
        case rel => exact ⟨(y194), (wrap64 (x4_1 + 1)), (by first | rfl | (simp; done) | (simp [*]; done)), H', ⟨by have := HK1.1; omega⟩, ⟨by (with_reducible repeat (first | apply Kd.S_alloc | apply Kd.S_drewN | apply Kd.S_drew)); exact HO_3.1⟩, ⟨by repeat (first | (with_reducible first | exact HB.1 | apply bA_ | apply bN_ | apply bD_) | exact HB.1)⟩⟩
       ·rw [if_neg c9] at H
        exact absurd H (by simp)
      ·rw [if_neg c7] at H
       exact absurd H (by simp)
     ·rw [if_neg c6] at H
      have c6b0 : decide (x4_1 < (l0.length : Int)) = false := decide_eq_false c6
      clear c6
      obtain rfl := Option.some.inj H
      go_wp2
      go_ret
      exact ⟨_, by first | rfl | (simp [errW_none, errW_some] <;> rfl) | (simp [*, errW_none, errW_some] <;> rfl), by (with_reducible repeat (first | apply Kd.S_alloc | apply Kd.S_drewN | apply Kd.S_drew)); exact HO_3.1, by repeat (first | (with_reducible first | exact HB.1 | apply bA_ | apply bN_ | apply bD_) | exact HB.1)⟩
  ·rw [if_neg c3] at H
   exact absurd H (by simp)
 ·rw [if_neg c2] at H
  exact absurd H (by simp)

/-! ### laws_toSeenFrame: function 164 -/
def laws_toSeenFrame.f (a0_0 : Int) (a0_1 : Int) (a0_2 : Int) (a0_3 : Int) : Option (Int × Int × Int × Int) := some (a0_0, a0_1, a0_2, a0_3)
set_option maxHeartbeats 8000000 in
set_option maxRecDepth 100000 in
theorem laws_toSeenFrame.calls (a0_0 : Int) (a0_1 : Int) (a0_2 : Int) (a0_3 : Int) (r1 : Int) (r2 : Int) (r3 : Int) (r4 : Int) (w : World) (h : laws_toSeenFrame.f a0_0 a0_1 a0_2 a0_3 = some (r1, r2, r3, r4)) :
  Calls Try.prog 164 #[.agg #[.int .i64 a0_0, .int .i64 a0_1, .int .i64 a0_2, .int .i64 a0_3]] w fun e w' => e = .returned (.agg #[.int .i64 r1, .int .i64 r2, .int .i64 r3, .int .i64 r4]) ∧ Below w.heap.size w w' := by
 have hu187 := Try.underlying187
 have hu141 := Try.underlying141
 have HB := Am_ (Below.refl w.heap.size w)
 have H : (some (a0_0, a0_1, a0_2, a0_3)) = some (r1, r2, r3, r4) := h
 clear h
 simp only [Option.some.injEq, Prod.mk.injEq] at H
 obtain ⟨rfl, rfl, rfl, rfl⟩ := H
 go_enter Try.func164, Try.ntmps164
 go_wp2_with (first | ((with_reducible refine gate_dst (N := 1) rfl ?_); refine box_event ?hg (N := 1) ?hd (cs := #[.int .i64 a0_0, .int .i64 a0_1, .int .i64 a0_2, .int .i64 a0_3]) (t := 187) ?hr ?_; (case hd => rfl); (case hg => rfl); (case hr => first | (go_simp; done) | (go_simp; rfl)); intro gb195 hg w2 hbox hb; have n0_ := Am_ (bT_ (by repeat (first | (with_reducible first | exact HB.1 | apply bA_ | apply bN_ | apply bD_) | exact HB.1)) hb); have n1_ := Am_ (hbox); have n2_ := Am_ ((by rw [hg]; exact (bZ_ (by repeat (first | (with_reducible first | exact HB.1 | apply bA_ | apply bN_ | apply bD_) | exact HB.1))) : w.heap.size ≤ gb195)); have n3_ := Am_ ((by rw [hg]; exact (bZ_ (by repeat (first | (with_reducible first | exact HB.1 | apply bA_ | apply bN_ | apply bD_) | exact HB.1))) : w.heap.size ≤ gb195)); clear HB; have HB := n0_; have BK195 := n1_; have GW195 := n2_; have GE195 := n3_; clear n0_ n1_ n2_ n3_ hb hbox hg) | ((with_reducible refine gate_dst (N := 2) rfl ?_); refine box_event ?hg (N := 2) ?hd (cs := #[.int .i64 0, .int .i64 0, .int .i64 0, .int .i64 0]) (t := 141) ?hr ?_; (case hd => rfl); (case hg => rfl); (case hr => first | (go_simp; done) | (go_simp; rfl)); intro gb196 hg w3 hbox hb; have n0_ := Am_ (kB_ (g := gb195) (by (with_reducible repeat (first | refine kN_ ?_ _ | refine kD_ ?_ | refine kA_ ?_ _)); exact BK195.1) hb); have n1_ := Am_ (bT_ (by repeat (first | (with_reducible first | exact HB.1 | apply bA_ | apply bN_ | apply bD_ | refine bS_ ?_ GE195.1) | exact HB.1)) hb); have n2_ := Am_ (hbox); have n3_ := Am_ ((by rw [hg]; exact (bZ_ (by repeat (first | (with_reducible first | exact HB.1 | apply bA_ | apply bN_ | apply bD_ | refine bS_ ?_ GE195.1) | exact HB.1))) : w.heap.size ≤ gb196)); have n4_ := Am_ ((by rw [hg]; exact (bZ_ (by repeat (first | (with_reducible first | exact HB.1 | apply bA_ | apply bN_ | apply bD_ | refine bS_ ?_ GE195.1) | exact HB.1))) : w.heap.size ≤ gb196)); have n5_ := Am_ ((by rw [hg]; exact Nat.ne_of_lt (blk_lt (g := gb195) (by (with_reducible repeat (first | refine kN_ ?_ _ | refine kD_ ?_ | refine kA_ ?_ _)); exact BK195.1)) : gb195 ≠ gb196)); have n6_ := Am_ ((by rw [hg]; exact Nat.ne_of_gt (blk_lt (g := gb195) (by (with_reducible repeat (first | refine kN_ ?_ _ | refine kD_ ?_ | refine kA_ ?_ _)); exact BK195.1)) : gb196 ≠ gb195)); clear BK195 HB; have BK195 := n0_; have HB := n1_; have BK196 := n2_; have GW196 := n3_; have GE196 := n4_; have NB195_196 := n5_; have NB196_195 := n6_; clear n0_ n1_ n2_ n3_ n4_ n5_ n6_ hb hbox hg) | ((with_reducible refine gate_dst (N := 3) rfl ?_); refine box_event ?hg (N := 3) ?hd (cs := #[.int .i64 0, .int .i64 0, .int .i64 0, .int .i64 0]) (t := 141) ?hr ?_; (case hd => rfl); (case hg => rfl); (case hr => first | (go_simp; done) | (go_simp; rfl)); intro gb197 hg w4 hbox hb; have n0_ := Am_ (kB_ (g := gb195) (by (with_reducible repeat (first | refine kN_ ?_ _ | refine kD_ ?_ | refine kA_ ?_ _)); exact BK195.1) hb); have n1_ := Am_ (kB_ (g := gb196) (by (with_reducible repeat (first | refine kN_ ?_ _ | refine kD_ ?_ | refine kA_ ?_ _)); exact BK196.1) hb); have n2_ := Am_ (bT_ (by repeat (first | (with_reducible first | exact HB.1 | apply bA_ | apply bN_ | apply bD_ | refine bS_ ?_ GE195.1 | refine bS_ ?_ GE196.1) | exact HB.1)) hb); have n3_ := Am_ (hbox); have n4_ := Am_ ((by rw [hg]; exact (bZ_ (by repeat (first | (with_reducible first | exact HB.1 | apply bA_ | apply bN_ | apply bD_ | refine bS_ ?_ GE195.1 | refine bS_ ?_ GE196.1) | exact HB.1))) : w.heap.size ≤ gb197)); have n5_ := Am_ ((by rw [hg]; exact (bZ_ (by repeat (first | (with_reducible first | exact HB.1 | apply bA_ | apply bN_ | apply bD_ | refine bS_ ?_ GE195.1 | refine bS_ ?_ GE196.1) | exact HB.1))) : w.heap.size ≤ gb197)); have n6_ := Am_ ((by rw [hg]; exact Nat.ne_of_lt (blk_lt (g := gb195) (by (with_reducible repeat (first | refine kN_ ?_ _ | refine kD_ ?_ | refine kA_ ?_ _)); exact BK195.1)) : gb195 ≠ gb197)); have n7_ := Am_ ((by rw [hg]; exact Nat.ne_of_gt (blk_lt (g := gb195) (by (with_reducible repeat (first | refine kN_ ?_ _ | refine kD_ ?_ | refine kA_ ?_ _)); exact BK195.1)) : gb197 ≠ gb195)); have n8_ := Am_ ((by rw [hg]; exact Nat.ne_of_lt (blk_lt (g := gb196) (by (with_reducible repeat (first | refine kN_ ?_ _ | refine kD_ ?_ | refine kA_ ?_ _)); exact BK196.1)) : gb196 ≠ gb197)); have n9_ := Am_ ((by rw [hg]; exact Nat.ne_of_gt (blk_lt (g := gb196) (by (with_reducible repeat (first | refine kN_ ?_ _ | refine kD_ ?_ | refine kA_ ?_ _)); exact BK196.1)) : gb197 ≠ gb196)); clear BK195 BK196 HB; have BK195 := n0_; have BK196 := n1_; have HB := n2_; have BK197 := n3_; have GW197 := n4_; have GE197 := n5_; have NB195_197 := n6_; have NB197_195 := n7_; have NB196_197 := n8_; have NB197_196 := n9_; clear n0_ n1_ n2_ n3_ n4_ n5_ n6_ n7_ n8_ n9_ hb hbox hg; have hnb5 := NB195_196.1; have hnc5 := NB196_195.1; have hnb6 := NB195_197.1; have hnc6 := NB197_195.1; have hcz7_0 : w4.cell? ⟨gb195, 0, none⟩ = some (.int .i64 a0_0) := kC_ BK195.1 0; have hcz7_1 : w4.cell? ⟨gb195, 1, none⟩ = some (.int .i64 a0_1) := kC_ BK195.1 1; have hcz7_2 : w4.cell? ⟨gb195, 2, none⟩ = some (.int .i64 a0_2) := kC_ BK195.1 2; have hcz7_3 : w4.cell? ⟨gb195, 3, none⟩ = some (.int .i64 a0_3) := kC_ BK195.1 3; have hfz7_0 := kF_ BK195.1 0; have hfz7_1 := kF_ BK195.1 1; have hfz7_2 := kF_ BK195.1 2; have hfz7_3 := kF_ BK195.1 3; have hnb8 := NB197_196.1; have hnc8 := NB196_197.1; have hcz9_0 : w4.cell? ⟨gb197, 0, none⟩ = some (.int .i64 0) := kC_ BK197.1 0; have hcz9_1 : w4.cell? ⟨gb197, 1, none⟩ = some (.int .i64 0) := kC_ BK197.1 1; have hcz9_2 : w4.cell? ⟨gb197, 2, none⟩ = some (.int .i64 0) := kC_ BK197.1 2; have hcz9_3 : w4.cell? ⟨gb197, 3, none⟩ = some (.int .i64 0) := kC_ BK197.1 3; have hfz9_0 := kF_ BK197.1 0; have hfz9_1 := kF_ BK197.1 1; have hfz9_2 := kF_ BK197.1 2; have hfz9_3 := kF_ BK197.1 3; have hcz10_0 : w4.cell? ⟨gb196, 0, none⟩ = some (.int .i64 0) := kC_ BK196.1 0; have hcz10_1 : w4.cell? ⟨gb196, 1, none⟩ = some (.int .i64 0) := kC_ BK196.1 1; have hcz10_2 : w4.cell? ⟨gb196, 2, none⟩ = some (.int .i64 0) := kC_ BK196.1 2; have hcz10_3 : w4.cell? ⟨gb196, 3, none⟩ = some (.int .i64 0) := kC_ BK196.1 3; have hfz10_0 := kF_ BK196.1 0; have hfz10_1 := kF_ BK196.1 1; have hfz10_2 := kF_ BK196.1 2; have hfz10_3 := kF_ BK196.1 3))
 refine bodyPost_ret (results_cell_row rfl _ _ gb196 141 #[.int .i64 a0_0, .int .i64 a0_1, .int .i64 a0_2, .int .i64 a0_3] (0, 0) _ rfl (by (with_reducible repeat (first | refine kN_ ?_ _ | refine kD_ ?_ | refine kA_ ?_ _)); refine blk_put (cs := #[.int .i64 a0_0, .int .i64 a0_1, .int .i64 a0_2, .int .i64 0]) ?_ 3 _ rfl; (with_reducible repeat (first | refine kN_ ?_ _ | refine kD_ ?_ | refine kA_ ?_ _)); refine blk_put (cs := #[.int .i64 a0_0, .int .i64 a0_1, .int .i64 0, .int .i64 0]) ?_ 2 _ rfl; (with_reducible repeat (first | refine kN_ ?_ _ | refine kD_ ?_ | refine kA_ ?_ _)); refine blk_put (cs := #[.int .i64 a0_0, .int .i64 0, .int .i64 0, .int .i64 0]) ?_ 1 _ rfl; (with_reducible repeat (first | refine kN_ ?_ _ | refine kD_ ?_ | refine kA_ ?_ _)); refine blk_put (cs := #[.int .i64 0, .int .i64 0, .int .i64 0, .int .i64 0]) ?_ 0 _ rfl; (with_reducible repeat (first | refine kN_ ?_ _ | refine kD_ ?_ | refine kA_ ?_ _)); refine blk_far ?_ NB196_197.1 _; (with_reducible repeat (first | refine kN_ ?_ _ | refine kD_ ?_ | refine kA_ ?_ _)); refine blk_far ?_ NB196_197.1 _; (with_reducible repeat (first | refine kN_ ?_ _ | refine kD_ ?_ | refine kA_ ?_ _)); refine blk_far ?_ NB196_197.1 _; (with_reducible repeat (first | refine kN_ ?_ _ | refine kD_ ?_ | refine kA_ ?_ _)); refine blk_far ?_ NB196_197.1 _; (with_reducible repeat (first | refine kN_ ?_ _ | refine kD_ ?_ | refine kA_ ?_ _)); exact BK196.1) Try.underlying141 rfl (by kernel_rfl)) rfl ?_
 exact ⟨by first | rfl | (simp [errW_none, errW_some] <;> rfl) | (simp [*, errW_none, errW_some] <;> rfl), by repeat (first | (with_reducible first | exact HB.1 | apply bA_ | apply bN_ | apply bD_ | refine bS_ ?_ GE195.1 | refine bS_ ?_ GE196.1 | refine bS_ ?_ GE197.1) | exact HB.1)⟩

/-! ### laws_toSeenFrameS: function 140 -/
def laws_toSeenFrameS.l0 : Nat → List (S187) → List (S141) → Int → Option ((List (S141)))
 | 0, _, _, _ => none
 | k + 1, x0, x3, x4 => if x4 < (x0.length : Int) then (if 0 ≤ x4 then ((laws_toSeenFrame.f ((rd_T187 x0 x4).f0) ((rd_T187 x0 x4).f1) ((rd_T187 x0 x4).f2) ((rd_T187 x0 x4).f3)).bind fun bt202 => (if x4 < (x3.length : Int) then (laws_toSeenFrameS.l0 k x0 (x3.set (x4 : Int).toNat (⟨bt202.1, bt202.2.1, bt202.2.2.1, bt202.2.2.2⟩ : S141)) (wrap64 (x4 + 1))) else (none))) else (none)) else (some x3)
def laws_toSeenFrameS.f (k : Nat) (l0 : List (S187)) : Option ((List (S141))) := if 0 ≤ (l0.length : Int) then (if ((l0.length : Int) : Int).toNat ≤ 8796093022208 then (laws_toSeenFrameS.l0 k l0 (List.replicate ((l0.length : Int) : Int).toNat z141) 0) else (none)) else (none)
theorem laws_toSeenFrameS.mono_l : ∀ k, (∀ y0 y1 y2, LeO (laws_toSeenFrameS.l0 k y0 y1 y2) (laws_toSeenFrameS.l0 (k + 1) y0 y1 y2))
 | 0 => fun _ _ _ r h => by simp [laws_toSeenFrameS.l0] at h
 | k + 1 => by
  have ih0 := laws_toSeenFrameS.mono_l k
  ·intro y0 y1 y2
   unfold laws_toSeenFrameS.l0
   repeat' first
   | (with_reducible exact ih0 _ _ _)
   | (with_reducible exact LeO.refl _)
   | (with_reducible exact LeO.none _)
   | (with_reducible refine LeO.ite ?_ ?_)
   | (with_reducible refine LeO.bind ?_ (fun _ => ?_))
   | exact ih0 _ _ _
   | exact LeO.none _
   | refine LeO.ite ?_ ?_
   | refine LeO.bind ?_ (fun _ => ?_)
theorem laws_toSeenFrameS.mono : ∀ a0 k, LeO (laws_toSeenFrameS.f k a0) (laws_toSeenFrameS.f (k + 1) a0) := by
 intro a0 k
 have ih0 := laws_toSeenFrameS.mono_l k
 unfold laws_toSeenFrameS.f
 repeat' first
   | (with_reducible exact ih0 _ _ _)
   | (with_reducible exact LeO.refl _)
   | (with_reducible exact LeO.none _)
   | (with_reducible refine LeO.ite ?_ ?_)
   | (with_reducible refine LeO.bind ?_ (fun _ => ?_))
   | exact ih0 _ _ _
   | exact LeO.none _
   | refine LeO.ite ?_ ?_
   | refine LeO.bind ?_ (fun _ => ?_)
set_option maxHeartbeats 8000000 in
set_option maxRecDepth 100000 in
theorem laws_toSeenFrameS.calls (k : Nat) (A0 : Option Addr) (c0 : Nat) (l0 : List (S187)) (r : List (S141)) (w : World) (hr0 : Kd.C k187 w A0 l0.length l0) (hc0 : l0.length ≤ c0) (h : laws_toSeenFrameS.f k l0 = some r) :
  Calls Try.prog 140 #[.slice A0 l0.length c0] w fun e w' => ∃ v0_ : Value, e = .returned (v0_) ∧ Kd.R k141 141 w' w.heap.size (fun _ => True) v0_ r ∧ Below w.heap.size w w' := by
 have hu187 := Try.underlying187
 have hu141 := Try.underlying141
 have HR0 := Am_ hr0
 have HC0 := Am_ hc0
 clear hr0 hc0
 have HB := Am_ (Below.refl w.heap.size w)
 have H : (if 0 ≤ (l0.length : Int) then (if ((l0.length : Int) : Int).toNat ≤ 8796093022208 then (laws_toSeenFrameS.l0 k l0 (List.replicate ((l0.length : Int) : Int).toNat z141) 0) else (none)) else (none)) = some r := h
 clear h
 by_cases c2 : 0 ≤ (l0.length : Int)
 ·rw [if_pos c2] at H
  have c2b0 := eq_true c2
  have c2b1 : decide (0 ≤ (l0.length : Int)) = true := decide_eq_true c2
  clear c2
  by_cases c3 : ((l0.length : Int) : Int).toNat ≤ 8796093022208
  ·rw [if_pos c3] at H
   have c3b0 := eq_true c3
   have c3b1 : decide (((l0.length : Int) : Int).toNat ≤ 8796093022208) = true := decide_eq_true c3
   clear c3
   obtain ⟨y198, hy198⟩ : ∃ y_ : List (S141), y_ = (List.replicate ((l0.length : Int) : Int).toNat z141) := ⟨_, rfl⟩
   replace H : (laws_toSeenFrameS.l0 k l0 y198 0) = some r := by first | (rw [hy198]; with_reducible exact H) | (have H2_ := (Option.bind_some _ _).symm.trans H; rw [hy198]; with_reducible exact H2_) | (have H2_ := (Option.bind_some _ _).symm.trans H; with_reducible exact H2_) | with_reducible exact H | (rw [hy198]; exact H) | exact H
   have Ny198 := Am_ hy198
   clear hy198
   have H' := Am_ H
   clear H
   go_enter Try.func140, Try.ntmps140
   go_wp2_with (first | ((with_reducible refine gate_dst (N := 7) rfl ?_); refine Kd.R_make k141 _ 141 rfl (N := 7) rfl 94 _ _ rfl (l0.length : Int) rfl rfl Try.underlying94 (.agg #[(.int .i64 0), (.int .i64 0), (.int .i64 0), (.int .i64 0)]) 32 info141 rfl (by decide) (by omega) z141 (ok := fun _ => True) (okp := fun _ => True) (k141_mkM _ _ _ z141 ) (fun _ hk => hk) trivial (of_decide_eq_true (by first | (with_reducible assumption) | assumption)) (Nat.le_trans (Nat.mul_le_mul_right _ (of_decide_eq_true (by first | (with_reducible assumption) | assumption) : (l0.length : Int).toNat ≤ 8796093022208)) (by omega)) (Below.refl _ _) (Nat.le_refl _) ?_; intro v199 w4 ho5 hb hg_ hnew_; clear hg_ hnew_; (first | rw [← Ny198.1] at ho5 | (simp only [Int.reduceToNat] at ho5; rw [← Ny198.1] at ho5)); have n0_ := Am_ (Kd.R_lower ho5 (bZ_ (by repeat (first | (with_reducible first | exact HB.1 | apply bA_ | apply bN_ | apply bD_) | exact HB.1)))); have n1_ := Am_ (bT_ (by repeat (first | (with_reducible first | exact HB.1 | apply bA_ | apply bN_ | apply bD_) | exact HB.1)) hb); clear HB; have HO200 := n0_; have HB := n1_; clear n0_ n1_ hb ho5))
   go_loopg [4] k (fun kq v4 w' => ∃ (x3_1 : List (S141)) (x4_1 : Int), v4 = .int .i64 x4_1 ∧ Aside0 (laws_toSeenFrameS.l0 kq l0 x3_1 x4_1 = some r) ∧ Aside0 (kq ≤ k) ∧ Aside0 (Kd.R k141 141 w' w.heap.size (fun _ => True) v199 x3_1) ∧ Aside0 (Below w.heap.size w w'))
   case atStart => exact ⟨(y198), (0), (by first | rfl | (simp; done) | (simp [*]; done)), H', ⟨Nat.le_refl _⟩, ⟨by (with_reducible repeat (first | apply rA_ | apply rN_ | apply rD_)); exact HO200.1⟩, ⟨by repeat (first | (with_reducible first | exact HB.1 | apply bA_ | apply bN_ | apply bD_) | exact HB.1)⟩⟩
   case round =>
    clear H'
    try clear c1
    try clear c2
    try clear c2b0
    try clear c2b1
    try clear p2
    try clear c3
    try clear c3b0
    try clear c3b1
    obtain ⟨x3_1, x4_1, rfl, HA, HK1, HO_3, HB⟩ := hrel
    cases gk with
    | zero => exact absurd HA.1 (by simp [laws_toSeenFrameS.l0])
    | succ k1 =>
     have H := HA.1
     clear HA
     simp only [laws_toSeenFrameS.l0] at H
     by_cases c6 : x4_1 < (l0.length : Int)
     ·rw [if_pos c6] at H
      have c6b0 : decide (x4_1 < (l0.length : Int)) = true := decide_eq_true c6
      clear c6
      by_cases c7 : 0 ≤ x4_1
      ·rw [if_pos c7] at H
       have c7b0 : decide (0 ≤ x4_1) = true := decide_eq_true c7
       clear c7
       replace H := Option.bind_eq_some_iff.mp H
       obtain ⟨⟨t202, t203, t204, t205⟩, A80, H⟩ := H
       replace H : (if x4_1 < (x3_1.length : Int) then (laws_toSeenFrameS.l0 k1 l0 (x3_1.set (x4_1 : Int).toNat (⟨t202, t203, t204, t205⟩ : S141)) (wrap64 (x4_1 + 1))) else (none)) = some r := H
       have A8 := Am_ A80
       clear A80
       by_cases c9 : x4_1 < (x3_1.length : Int)
       ·rw [if_pos c9] at H
        have c9b0 : decide (x4_1 < (x3_1.length : Int)) = true := decide_eq_true c9
        clear c9
        obtain ⟨y206, hy206⟩ : ∃ y_ : List (S141), y_ = (x3_1.set (x4_1 : Int).toNat (⟨t202, t203, t204, t205⟩ : S141)) := ⟨_, rfl⟩
        replace H : (laws_toSeenFrameS.l0 k1 l0 y206 (wrap64 (x4_1 + 1))) = some r := by first | (rw [hy206]; with_reducible exact H) | (have H2_ := (Option.bind_some _ _).symm.trans H; rw [hy206]; with_reducible exact H2_) | (have H2_ := (Option.bind_some _ _).symm.trans H; with_reducible exact H2_) | with_reducible exact H | (rw [hy206]; exact H) | exact H
        have Ny206 := Am_ hy206
        clear hy206
        have H' := Am_ H
        clear H
        have p201 : 0 ≤ (x4_1 : Int) := of_decide_eq_true (by first | (with_reducible assumption) | assumption)
        have q201 : x4_1 < (l0.length : Int) := of_decide_eq_true (by first | (with_reducible assumption) | assumption)
        obtain ⟨ad201, e201, hx201_0, hx201_1, hx201_2, hx201_3⟩ := at_T187 HR0.1 x4_1 p201 q201
        cases e201
        replace hx201_0 := (HB.1.cell (World.block_lt_of_cell? w _ hx201_0)).trans hx201_0
        replace hx201_1 := (HB.1.cell (World.block_lt_of_cell? w _ hx201_1)).trans hx201_1
        replace hx201_2 := (HB.1.cell (World.block_lt_of_cell? w _ hx201_2)).trans hx201_2
        replace hx201_3 := (HB.1.cell (World.block_lt_of_cell? w _ hx201_3)).trans hx201_3
        replace p201 := eq_true p201
        replace q201 := eq_true q201
        go_wp2_with (first | ((with_reducible refine gate_callee (f := 164) rfl ?_); refine goesL_ (some 20) rfl rfl Try.func164 (by kernel_rfl) rfl #[.agg #[.int .i64 ((rd_T187 l0 x4_1).f0), .int .i64 ((rd_T187 l0 x4_1).f1), .int .i64 ((rd_T187 l0 x4_1).f2), .int .i64 ((rd_T187 l0 x4_1).f3)]] rfl (by (try simp only [List.map_toArray, List.map_cons, List.map_nil]); first | done | rfl | (simp only [List.length_drop, List.length_take]; rfl)) ?_; (with_reducible refine (laws_toSeenFrame.calls ((rd_T187 l0 x4_1).f0) ((rd_T187 l0 x4_1).f1) ((rd_T187 l0 x4_1).f2) ((rd_T187 l0 x4_1).f3) t202 t203 t204 t205 _ A8.1).mono ?_); rintro e w11 ⟨rfl, hb⟩; refine ⟨_, rfl, ?_⟩; have n0_ := Am_ (Kd.R_below (by (with_reducible repeat (first | apply rA_ | apply rN_ | apply rD_)); exact HO_3.1) hb); have n1_ := Am_ (bT_ (by repeat (first | (with_reducible first | exact HB.1 | apply bA_ | apply bN_ | apply bD_) | exact HB.1)) hb); clear HO_3 HB; have HO_3 := n0_; have HB := n1_; clear n0_ n1_; (try clear hb); (try clear hb2); (try clear hk); (try clear hi); have p10 : 0 ≤ (x4_1 : Int) := of_decide_eq_true (by first | (with_reducible assumption) | assumption); have q10 : (x4_1 : Int) < ((x3_1.length : Int) : Int) := of_decide_eq_true (by first | (with_reducible assumption) | assumption); obtain ⟨go10, co10, eo10, gb10, gl10, cl10, HG10⟩ := Kd.R_form HO_3.1 (by omega); (first | cases eo10 | (injection eo10 with ea_ en_ ec_; (first | subst ea_ | (injection ea_ with ea_; subst ea_)); subst ec_; clear en_)); have GB10 := Am_ gb10; have GG10 := Am_ HG10; clear gb10 gl10 HG10; obtain ⟨ce10, hcl10, hM10, hcc10, hfr10⟩ := Kd.R_elem HO_3.1 z141 (x4_1 : Int) p10 q10; obtain rfl := k141_openM hM10; have hx10_0 : w11.cell? ⟨go10, (x4_1 : Int).toNat * 4, none⟩ = some (.int .i64 ((rd_T141 x3_1 x4_1).f0)) := hcc10 0 _ rfl; have hx10_1 : w11.cell? ⟨go10, (x4_1 : Int).toNat * 4 + 1, none⟩ = some (.int .i64 ((rd_T141 x3_1 x4_1).f1)) := hcc10 1 _ rfl; have hx10_2 : w11.cell? ⟨go10, (x4_1 : Int).toNat * 4 + 2, none⟩ = some (.int .i64 ((rd_T141 x3_1 x4_1).f2)) := hcc10 2 _ rfl; have hx10_3 : w11.cell? ⟨go10, (x4_1 : Int).toNat * 4 + 3, none⟩ = some (.int .i64 ((rd_T141 x3_1 x4_1).f3)) := hcc10 3 _ rfl; have hf10_0 : w11.frozen? ⟨go10, (x4_1 : Int).toNat * 4, none⟩ = false := hfr10 0; have hf10_1 : w11.frozen? ⟨go10, (x4_1 : Int).toNat * 4 + 1, none⟩ = false := hfr10 1; have hf10_2 : w11.frozen? ⟨go10, (x4_1 : Int).toNat * 4 + 2, none⟩ = false := hfr10 2; have hf10_3 : w11.frozen? ⟨go10, (x4_1 : Int).toNat * 4 + 3, none⟩ = false := hfr10 3; clear hcl10 hcc10 hfr10 hM10; replace p10 := eq_true p10; replace q10 := eq_true q10; have HX12 := Am_ (show Kd.R k141 141 w11 w.heap.size (fun _ => True) (.slice (some ⟨go10, 0, none⟩) x3_1.length co10) x3_1 from (by (with_reducible repeat (first | apply rA_ | apply rN_ | apply rD_)); exact HO_3.1)); obtain ⟨ce12, hcl12, hM12, hcc12, hfr12⟩ := Kd.R_elem HX12.out z141 (x4_1 : Int) (of_decide_eq_true (by first | (with_reducible assumption) | assumption)) (by have h_ : (x4_1 : Int) < ((x3_1.length : Int) : Int) := of_decide_eq_true (by first | (with_reducible assumption) | assumption); first | exact h_ | (have e_ := (Kd.R_reads' HO_3.1).1; omega) | simpa using h_); obtain rfl := k141_openM hM12; have HP12 := Kd.R_seg HX12.out (x4_1 : Int) (of_decide_eq_true (by first | (with_reducible assumption) | assumption)) (by have h_ : (x4_1 : Int) < ((x3_1.length : Int) : Int) := of_decide_eq_true (by first | (with_reducible assumption) | assumption); first | exact h_ | (have e_ := (Kd.R_reads' HO_3.1).1; omega) | simpa using h_) (seg := [.int .i64 t202, .int .i64 t203, .int .i64 t204, .int .i64 t205]) (j := 0) hcl12 hcc12 (show 4 ≤ 4 from by decide) (x' := (⟨t202, t203, t204, t205⟩ : S141)) (k141_mkM _ _ _ (⟨t202, t203, t204, t205⟩ : S141) ) (fun _ hk => hk); have hx12_0 := hcc12 0 _ rfl; (try simp only [show (k141).sz = 4 from rfl, Nat.mul_one, Nat.add_zero] at hx12_0); have hf12_0 := hfr12 0; (try simp only [show (k141).sz = 4 from rfl, Nat.mul_one, Nat.add_zero] at hf12_0); have hx12_1 := hcc12 1 _ rfl; (try simp only [show (k141).sz = 4 from rfl, Nat.mul_one, Nat.add_zero] at hx12_1); have hf12_1 := hfr12 1; (try simp only [show (k141).sz = 4 from rfl, Nat.mul_one, Nat.add_zero] at hf12_1); have hx12_2 := hcc12 2 _ rfl; (try simp only [show (k141).sz = 4 from rfl, Nat.mul_one, Nat.add_zero] at hx12_2); have hf12_2 := hfr12 2; (try simp only [show (k141).sz = 4 from rfl, Nat.mul_one, Nat.add_zero] at hf12_2); have hx12_3 := hcc12 3 _ rfl; (try simp only [show (k141).sz = 4 from rfl, Nat.mul_one, Nat.add_zero] at hx12_3); have hf12_3 := hfr12 3; (try simp only [show (k141).sz = 4 from rfl, Nat.mul_one, Nat.add_zero] at hf12_3); clear hcl12 hcc12 hfr12 hM12) | ((with_reducible refine gate_store (t := 141) (p := 21) rfl ?_); refine store_event (t := 141) (p := 21) (v := ?vo_w13) (w1 := ((((w11.setCell ⟨go10, (x4_1 : Int).toNat * 4, none⟩ (.int .i64 t202)).setCell ⟨go10, (x4_1 : Int).toNat * 4 + 1, none⟩ (.int .i64 t203)).setCell ⟨go10, (x4_1 : Int).toNat * 4 + 2, none⟩ (.int .i64 t204)).setCell ⟨go10, (x4_1 : Int).toNat * 4 + 3, none⟩ (.int .i64 t205))) ?hg ?ho ?hn ?hr ?_; (case ho => rfl); (case hg => rfl); (case hn => rfl); (case hr => first | (go_simp; done) | (go_simp; rfl)); intro w13 hw; have hg : w11.grownBy w13 (some go10) := (by rw [hw]; exact HP12.2); have hp_ : Kd.R k141 141 w13 w.heap.size (fun _ => True) (.slice (some ⟨go10, 0, none⟩) x3_1.length co10) y206 := (by rw [hw, Ny206.1]; exact HP12.1); clear HP12; have n0_ := Am_ (hp_); have n1_ := Am_ ((by rw [hw]; exact bS_ (bS_ (bS_ (bS_ (HB.1) GB10.out) GB10.out) GB10.out) GB10.out : Below w.heap.size w w13)); clear HO_3 HB; have HO_3 := n0_; have HB := n1_; clear n0_ n1_ hg hw hp_))
        go_roundg k1
        case measure => have := HK1.1; omega
        case rel => exact ⟨(y206), (wrap64 (x4_1 + 1)), (by first | rfl | (simp; done) | (simp [*]; done)), H', ⟨by have := HK1.1; omega⟩, ⟨by (with_reducible repeat (first | apply rA_ | apply rN_ | apply rD_)); exact HO_3.1⟩, ⟨by repeat (first | (with_reducible first | exact HB.1 | apply bA_ | apply bN_ | apply bD_) | exact HB.1)⟩⟩
       ·rw [if_neg c9] at H
        exact absurd H (by simp)
      ·rw [if_neg c7] at H
       exact absurd H (by simp)
     ·rw [if_neg c6] at H
      have c6b0 : decide (x4_1 < (l0.length : Int)) = false := decide_eq_false c6
      clear c6
      obtain rfl := Option.some.inj H
      go_wp2
      go_ret
      exact ⟨_, by first | rfl | (simp [errW_none, errW_some] <;> rfl) | (simp [*, errW_none, errW_some] <;> rfl), by (with_reducible repeat (first | apply rA_ | apply rN_ | apply rD_)); exact HO_3.1, by repeat (first | (with_reducible first | exact HB.1 | apply bA_ | apply bN_ | apply bD_) | exact HB.1)⟩
  ·rw [if_neg c3] at H
   exact absurd H (by simp)
 ·rw [if_neg c2] at H
  exact absurd H (by simp)

/-! ### laws_toDelivery: function 165 -/
def laws_toDelivery.f (k : Nat) (a0_0 : Int) (a0_1 : Int) (a0_2 : Int) (l0_3 : List Int) : Option (Int × Int × Int × List Int) := (laws_toByteS.f k l0_3).bind fun t210 => (some (a0_0, a0_1, a0_2, t210))
theorem laws_toDelivery.mono : ∀ a0 a1 a2 a3 k, LeO (laws_toDelivery.f k a0 a1 a2 a3) (laws_toDelivery.f (k + 1) a0 a1 a2 a3) := by
 intro a0 a1 a2 a3 k
 unfold laws_toDelivery.f
 repeat' first
   | (with_reducible exact laws_toByteS.mono _ _)
   | (with_reducible exact LeO.refl _)
   | (with_reducible exact LeO.none _)
   | (with_reducible refine LeO.ite ?_ ?_)
   | (with_reducible refine LeO.bind ?_ (fun _ => ?_))
   | exact laws_toByteS.mono _ _
   | exact LeO.none _
   | refine LeO.ite ?_ ?_
   | refine LeO.bind ?_ (fun _ => ?_)
set_option maxHeartbeats 8000000 in
set_option maxRecDepth 100000 in
theorem laws_toDelivery.calls (k : Nat) (a0_0 : Int) (a0_1 : Int) (a0_2 : Int) (A0_3 : Option Addr) (c0_3 : Nat) (l0_3 : List Int) (r1 : Int) (r2 : Int) (r3 : Int) (r4 : List Int) (w : World) (hr0_3 : Kd.C (Kd.int .u8) w A0_3 l0_3.length l0_3) (hc0_3 : l0_3.length ≤ c0_3) (h : laws_toDelivery.f k a0_0 a0_1 a0_2 l0_3 = some (r1, r2, r3, r4)) :
  Calls Try.prog 165 #[.agg #[.int .i64 a0_0, .int .i64 a0_1, .int .i64 a0_2, .slice A0_3 l0_3.length c0_3]] w fun e w' => ∃ v3_ : Value, e = .returned (.agg #[.int .i64 r1, .int .i64 r2, .int .i64 r3, v3_]) ∧ Kd.R (Kd.int .u8) 5 w' w.heap.size (fun _ => True) v3_ r4 ∧ Below w.heap.size w w' := by
 have hu182 := Try.underlying182
 have hu102 := Try.underlying102
 have HR0_3 := Am_ hr0_3
 have HC0_3 := Am_ hc0_3
 clear hr0_3 hc0_3
 have HB := Am_ (Below.refl w.heap.size w)
 have H : ((laws_toByteS.f k l0_3).bind fun t210 => (some (a0_0, a0_1, a0_2, t210))) = some (r1, r2, r3, r4) := h
 clear h
 replace H := Option.bind_eq_some_iff.mp H
 obtain ⟨t210, A20, H⟩ := H
 replace H : (some (a0_0, a0_1, a0_2, t210)) = some (r1, r2, r3, r4) := H
 have A2 := Am_ A20
 clear A20
 simp only [Option.some.injEq, Prod.mk.injEq] at H
 obtain ⟨rfl, rfl, rfl, rfl⟩ := H
 go_enter Try.func165, Try.ntmps165
 go_wp2_with (first | ((with_reducible refine gate_dst (N := 1) rfl ?_); refine box_event ?hg (N := 1) ?hd (cs := #[.int .i64 a0_0, .int .i64 a0_1, .int .i64 a0_2, .slice A0_3 l0_3.length c0_3]) (t := 182) ?hr ?_; (case hd => rfl); (case hg => rfl); (case hr => first | (go_simp; done) | (go_simp; rfl)); intro gb207 hg w3 hbox hb; have n0_ := Am_ (bT_ (by repeat (first | (with_reducible first | exact HB.1 | apply bA_ | apply bN_ | apply bD_) | exact HB.1)) hb); have n1_ := Am_ (hbox); have n2_ := Am_ ((by rw [hg]; exact (bZ_ (by repeat (first | (with_reducible first | exact HB.1 | apply bA_ | apply bN_ | apply bD_) | exact HB.1))) : w.heap.size ≤ gb207)); have n3_ := Am_ ((by rw [hg]; exact (bZ_ (by repeat (first | (with_reducible first | exact HB.1 | apply bA_ | apply bN_ | apply bD_) | exact HB.1))) : w.heap.size ≤ gb207)); clear HB; have HB := n0_; have BK207 := n1_; have GW207 := n2_; have GE207 := n3_; clear n0_ n1_ n2_ n3_ hb hbox hg) | ((with_reducible refine gate_dst (N := 2) rfl ?_); refine box_event ?hg (N := 2) ?hd (cs := #[.int .i64 0, .int .i64 0, .int .i64 0, .slice none 0 0]) (t := 102) ?hr ?_; (case hd => rfl); (case hg => rfl); (case hr => first | (go_simp; done) | (go_simp; rfl)); intro gb208 hg w4 hbox hb; have n0_ := Am_ (kB_ (g := gb207) (by (with_reducible repeat (first | refine kN_ ?_ _ | refine kD_ ?_ | refine kA_ ?_ _)); exact BK207.1) hb); have n1_ := Am_ (bT_ (by repeat (first | (with_reducible first | exact HB.1 | apply bA_ | apply bN_ | apply bD_ | refine bS_ ?_ GE207.1) | exact HB.1)) hb); have n2_ := Am_ (hbox); have n3_ := Am_ ((by rw [hg]; exact (bZ_ (by repeat (first | (with_reducible first | exact HB.1 | apply bA_ | apply bN_ | apply bD_ | refine bS_ ?_ GE207.1) | exact HB.1))) : w.heap.size ≤ gb208)); have n4_ := Am_ ((by rw [hg]; exact (bZ_ (by repeat (first | (with_reducible first | exact HB.1 | apply bA_ | apply bN_ | apply bD_ | refine bS_ ?_ GE207.1) | exact HB.1))) : w.heap.size ≤ gb208)); have n5_ := Am_ ((by rw [hg]; exact Nat.ne_of_lt (blk_lt (g := gb207) (by (with_reducible repeat (first | refine kN_ ?_ _ | refine kD_ ?_ | refine kA_ ?_ _)); exact BK207.1)) : gb207 ≠ gb208)); have n6_ := Am_ ((by rw [hg]; exact Nat.ne_of_gt (blk_lt (g := gb207) (by (with_reducible repeat (first | refine kN_ ?_ _ | refine kD_ ?_ | refine kA_ ?_ _)); exact BK207.1)) : gb208 ≠ gb207)); clear BK207 HB; have BK207 := n0_; have HB := n1_; have BK208 := n2_; have GW208 := n3_; have GE208 := n4_; have NB207_208 := n5_; have NB208_207 := n6_; clear n0_ n1_ n2_ n3_ n4_ n5_ n6_ hb hbox hg) | ((with_reducible refine gate_dst (N := 3) rfl ?_); refine box_event ?hg (N := 3) ?hd (cs := #[.int .i64 0, .int .i64 0, .int .i64 0, .slice none 0 0]) (t := 102) ?hr ?_; (case hd => rfl); (case hg => rfl); (case hr => first | (go_simp; done) | (go_simp; rfl)); intro gb209 hg w5 hbox hb; have n0_ := Am_ (kB_ (g := gb207) (by (with_reducible repeat (first | refine kN_ ?_ _ | refine kD_ ?_ | refine kA_ ?_ _)); exact BK207.1) hb); have n1_ := Am_ (kB_ (g := gb208) (by (with_reducible repeat (first | refine kN_ ?_ _ | refine kD_ ?_ | refine kA_ ?_ _)); exact BK208.1) hb); have n2_ := Am_ (bT_ (by repeat (first | (with_reducible first | exact HB.1 | apply bA_ | apply bN_ | apply bD_ | refine bS_ ?_ GE207.1 | refine bS_ ?_ GE208.1) | exact HB.1)) hb); have n3_ := Am_ (hbox); have n4_ := Am_ ((by rw [hg]; exact (bZ_ (by repeat (first | (with_reducible first | exact HB.1 | apply bA_ | apply bN_ | apply bD_ | refine bS_ ?_ GE207.1 | refine bS_ ?_ GE208.1) | exact HB.1))) : w.heap.size ≤ gb209)); have n5_ := Am_ ((by rw [hg]; exact (bZ_ (by repeat (first | (with_reducible first | exact HB.1 | apply bA_ | apply bN_ | apply bD_ | refine bS_ ?_ GE207.1 | refine bS_ ?_ GE208.1) | exact HB.1))) : w.heap.size ≤ gb209)); have n6_ := Am_ ((by rw [hg]; exact Nat.ne_of_lt (blk_lt (g := gb207) (by (with_reducible repeat (first | refine kN_ ?_ _ | refine kD_ ?_ | refine kA_ ?_ _)); exact BK207.1)) : gb207 ≠ gb209)); have n7_ := Am_ ((by rw [hg]; exact Nat.ne_of_gt (blk_lt (g := gb207) (by (with_reducible repeat (first | refine kN_ ?_ _ | refine kD_ ?_ | refine kA_ ?_ _)); exact BK207.1)) : gb209 ≠ gb207)); have n8_ := Am_ ((by rw [hg]; exact Nat.ne_of_lt (blk_lt (g := gb208) (by (with_reducible repeat (first | refine kN_ ?_ _ | refine kD_ ?_ | refine kA_ ?_ _)); exact BK208.1)) : gb208 ≠ gb209)); have n9_ := Am_ ((by rw [hg]; exact Nat.ne_of_gt (blk_lt (g := gb208) (by (with_reducible repeat (first | refine kN_ ?_ _ | refine kD_ ?_ | refine kA_ ?_ _)); exact BK208.1)) : gb209 ≠ gb208)); clear BK207 BK208 HB; have BK207 := n0_; have BK208 := n1_; have HB := n2_; have BK209 := n3_; have GW209 := n4_; have GE209 := n5_; have NB207_209 := n6_; have NB209_207 := n7_; have NB208_209 := n8_; have NB209_208 := n9_; clear n0_ n1_ n2_ n3_ n4_ n5_ n6_ n7_ n8_ n9_ hb hbox hg; have hnb6 := NB207_208.1; have hnc6 := NB208_207.1; have hnb7 := NB207_209.1; have hnc7 := NB209_207.1; have hcz8_0 : w5.cell? ⟨gb207, 0, none⟩ = some (.int .i64 a0_0) := kC_ BK207.1 0; have hcz8_1 : w5.cell? ⟨gb207, 1, none⟩ = some (.int .i64 a0_1) := kC_ BK207.1 1; have hcz8_2 : w5.cell? ⟨gb207, 2, none⟩ = some (.int .i64 a0_2) := kC_ BK207.1 2; have hcz8_3 : w5.cell? ⟨gb207, 3, none⟩ = some (.slice A0_3 l0_3.length c0_3) := kC_ BK207.1 3; have hfz8_0 := kF_ BK207.1 0; have hfz8_1 := kF_ BK207.1 1; have hfz8_2 := kF_ BK207.1 2; have hfz8_3 := kF_ BK207.1 3; have hnb9 := NB209_208.1; have hnc9 := NB208_209.1; have hcz10_0 : w5.cell? ⟨gb209, 0, none⟩ = some (.int .i64 0) := kC_ BK209.1 0; have hcz10_1 : w5.cell? ⟨gb209, 1, none⟩ = some (.int .i64 0) := kC_ BK209.1 1; have hcz10_2 : w5.cell? ⟨gb209, 2, none⟩ = some (.int .i64 0) := kC_ BK209.1 2; have hcz10_3 : w5.cell? ⟨gb209, 3, none⟩ = some (.slice none 0 0) := kC_ BK209.1 3; have hfz10_0 := kF_ BK209.1 0; have hfz10_1 := kF_ BK209.1 1; have hfz10_2 := kF_ BK209.1 2; have hfz10_3 := kF_ BK209.1 3) | ((with_reducible refine gate_callee (f := 162) rfl ?_); refine goesL_ (some 15) rfl rfl Try.func162 (by kernel_rfl) rfl #[.slice A0_3 l0_3.length c0_3] rfl (by (try simp only [List.map_toArray, List.map_cons, List.map_nil]); first | done | rfl | (simp only [List.length_drop, List.length_take]; rfl)) ?_; (with_reducible refine (laws_toByteS.calls k _ _ l0_3 t210 _ ?side1 ?side2 A2.1).mono ?_); (case side1 => exact Kd.C_below HR0_3.1 (by repeat (first | (with_reducible first | exact HB.1 | apply bA_ | apply bN_ | apply bD_ | refine bS_ ?_ GE207.1 | refine bS_ ?_ GE208.1 | refine bS_ ?_ GE209.1) | exact HB.1))); (case side2 => exact HC0_3.1); rintro e w11 ⟨v211, rfl, ho0, hb⟩; refine ⟨_, rfl, ?_⟩; have n0_ := Am_ (Kd.R_lower ho0 (bZ_ (by repeat (first | (with_reducible first | exact HB.1 | apply bA_ | apply bN_ | apply bD_ | refine bS_ ?_ GE207.1 | refine bS_ ?_ GE208.1 | refine bS_ ?_ GE209.1) | exact HB.1)))); have n1_ := Am_ (kB_ (g := gb207) (o := .cells #[.int .i64 a0_0, .int .i64 a0_1, .int .i64 a0_2, .slice A0_3 l0_3.length c0_3] 182 (0, 0)) (by (with_reducible repeat (first | refine kN_ ?_ _ | refine kD_ ?_ | refine kA_ ?_ _)); refine blk_far ?_ NB207_209.1 _; (with_reducible repeat (first | refine kN_ ?_ _ | refine kD_ ?_ | refine kA_ ?_ _)); refine blk_far ?_ NB207_209.1 _; (with_reducible repeat (first | refine kN_ ?_ _ | refine kD_ ?_ | refine kA_ ?_ _)); refine blk_far ?_ NB207_209.1 _; (with_reducible repeat (first | refine kN_ ?_ _ | refine kD_ ?_ | refine kA_ ?_ _)); exact BK207.1) hb); have n2_ := Am_ (kB_ (g := gb208) (o := .cells #[.int .i64 0, .int .i64 0, .int .i64 0, .slice none 0 0] 102 (0, 0)) (by (with_reducible repeat (first | refine kN_ ?_ _ | refine kD_ ?_ | refine kA_ ?_ _)); refine blk_far ?_ NB208_209.1 _; (with_reducible repeat (first | refine kN_ ?_ _ | refine kD_ ?_ | refine kA_ ?_ _)); refine blk_far ?_ NB208_209.1 _; (with_reducible repeat (first | refine kN_ ?_ _ | refine kD_ ?_ | refine kA_ ?_ _)); refine blk_far ?_ NB208_209.1 _; (with_reducible repeat (first | refine kN_ ?_ _ | refine kD_ ?_ | refine kA_ ?_ _)); exact BK208.1) hb); have n3_ := Am_ (kB_ (g := gb209) (o := .cells #[.int .i64 a0_0, .int .i64 a0_1, .int .i64 a0_2, .slice none 0 0] 102 (0, 0)) (by (with_reducible repeat (first | refine kN_ ?_ _ | refine kD_ ?_ | refine kA_ ?_ _)); refine blk_put (cs := #[.int .i64 a0_0, .int .i64 a0_1, .int .i64 0, .slice none 0 0]) ?_ 2 _ rfl; (with_reducible repeat (first | refine kN_ ?_ _ | refine kD_ ?_ | refine kA_ ?_ _)); refine blk_put (cs := #[.int .i64 a0_0, .int .i64 0, .int .i64 0, .slice none 0 0]) ?_ 1 _ rfl; (with_reducible repeat (first | refine kN_ ?_ _ | refine kD_ ?_ | refine kA_ ?_ _)); refine blk_put (cs := #[.int .i64 0, .int .i64 0, .int .i64 0, .slice none 0 0]) ?_ 0 _ rfl; (with_reducible repeat (first | refine kN_ ?_ _ | refine kD_ ?_ | refine kA_ ?_ _)); exact BK209.1) hb); have n4_ := Am_ (bT_ (by repeat (first | (with_reducible first | exact HB.1 | apply bA_ | apply bN_ | apply bD_ | refine bS_ ?_ GE207.1 | refine bS_ ?_ GE208.1 | refine bS_ ?_ GE209.1) | exact HB.1)) hb); clear BK207 BK208 BK209 HB; have HO212 := n0_; have BK207 := n1_; have BK208 := n2_; have BK209 := n3_; have HB := n4_; clear n0_ n1_ n2_ n3_ n4_; (try clear hb); (try clear hb2); (try clear hk); (try clear hi); (try clear ho0); obtain ⟨Ao12, co12, eo12⟩ := Kd.R_slice HO212.1; subst eo12; have hcz13_0 : w11.cell? ⟨gb209, 0, none⟩ = some (.int .i64 a0_0) := kC_ BK209.1 0; have hcz13_1 : w11.cell? ⟨gb209, 1, none⟩ = some (.int .i64 a0_1) := kC_ BK209.1 1; have hcz13_2 : w11.cell? ⟨gb209, 2, none⟩ = some (.int .i64 a0_2) := kC_ BK209.1 2; have hcz13_3 : w11.cell? ⟨gb209, 3, none⟩ = some (.slice none 0 0) := kC_ BK209.1 3; have hfz13_0 := kF_ BK209.1 0; have hfz13_1 := kF_ BK209.1 1; have hfz13_2 := kF_ BK209.1 2; have hfz13_3 := kF_ BK209.1 3; have hcz14_0 : w11.cell? ⟨gb208, 0, none⟩ = some (.int .i64 0) := kC_ BK208.1 0; have hcz14_1 : w11.cell? ⟨gb208, 1, none⟩ = some (.int .i64 0) := kC_ BK208.1 1; have hcz14_2 : w11.cell? ⟨gb208, 2, none⟩ = some (.int .i64 0) := kC_ BK208.1 2; have hcz14_3 : w11.cell? ⟨gb208, 3, none⟩ = some (.slice none 0 0) := kC_ BK208.1 3; have hfz14_0 := kF_ BK208.1 0; have hfz14_1 := kF_ BK208.1 1; have hfz14_2 := kF_ BK208.1 2; have hfz14_3 := kF_ BK208.1 3))
 refine bodyPost_ret (results_cell_row rfl _ _ gb208 102 #[.int .i64 a0_0, .int .i64 a0_1, .int .i64 a0_2, .slice Ao12 t210.length co12] (0, 0) _ rfl (by (with_reducible repeat (first | refine kN_ ?_ _ | refine kD_ ?_ | refine kA_ ?_ _)); refine blk_put (cs := #[.int .i64 a0_0, .int .i64 a0_1, .int .i64 a0_2, .slice none 0 0]) ?_ 3 _ rfl; (with_reducible repeat (first | refine kN_ ?_ _ | refine kD_ ?_ | refine kA_ ?_ _)); refine blk_put (cs := #[.int .i64 a0_0, .int .i64 a0_1, .int .i64 0, .slice none 0 0]) ?_ 2 _ rfl; (with_reducible repeat (first | refine kN_ ?_ _ | refine kD_ ?_ | refine kA_ ?_ _)); refine blk_put (cs := #[.int .i64 a0_0, .int .i64 0, .int .i64 0, .slice none 0 0]) ?_ 1 _ rfl; (with_reducible repeat (first | refine kN_ ?_ _ | refine kD_ ?_ | refine kA_ ?_ _)); refine blk_put (cs := #[.int .i64 0, .int .i64 0, .int .i64 0, .slice none 0 0]) ?_ 0 _ rfl; (with_reducible repeat (first | refine kN_ ?_ _ | refine kD_ ?_ | refine kA_ ?_ _)); refine blk_far ?_ NB208_209.1 _; (with_reducible repeat (first | refine kN_ ?_ _ | refine kD_ ?_ | refine kA_ ?_ _)); exact BK208.1) Try.underlying102 rfl (by kernel_rfl)) rfl ?_
 exact ⟨_, by first | rfl | (simp [errW_none, errW_some] <;> rfl) | (simp [*, errW_none, errW_some] <;> rfl), by (with_reducible repeat (first | apply rA_ | apply rN_ | apply rD_)); exact Kd.R_mono (rF_ (p := ⟨gb208, 3, none⟩) (rF_ (p := ⟨gb208, 2, none⟩) (rF_ (p := ⟨gb208, 1, none⟩) (rF_ (p := ⟨gb208, 0, none⟩) (rF_ (p := ⟨gb209, 3, none⟩) (Kd.R_types (Kd.R_types HO212.1 BK209.1 (by decide)) BK208.1 (by decide)) (fun _ hk => hk.1.2) (.slice Ao12 t210.length co12)) (fun _ hk => hk.2) (.int .i64 a0_0)) (fun _ hk => hk.2) (.int .i64 a0_1)) (fun _ hk => hk.2) (.int .i64 a0_2)) (fun _ hk => hk.2) (.slice Ao12 t210.length co12)) (fun _ hk => trivial), by repeat (first | (with_reducible first | exact HB.1 | apply bA_ | apply bN_ | apply bD_ | refine bS_ ?_ GE207.1 | refine bS_ ?_ GE208.1 | refine bS_ ?_ GE209.1) | exact HB.1)⟩

/-! ### laws_toDeliveryS: function 141 -/
def laws_toDeliveryS.l0 : Nat → List (S182) → List (S102) → Int → Option ((List (S102)))
 | 0, _, _, _ => none
 | k + 1, x0, x3, x4 => if x4 < (x0.length : Int) then (if 0 ≤ x4 then ((laws_toDelivery.f k ((rd_T182 x0 x4).f0) ((rd_T182 x0 x4).f1) ((rd_T182 x0 x4).f2) ((rd_T182 x0 x4).f3)).bind fun bt217 => (if x4 < (x3.length : Int) then (laws_toDeliveryS.l0 k x0 (x3.set (x4 : Int).toNat (⟨bt217.1, bt217.2.1, bt217.2.2.1, bt217.2.2.2⟩ : S102)) (wrap64 (x4 + 1))) else (none))) else (none)) else (some x3)
def laws_toDeliveryS.f (k : Nat) (l0 : List (S182)) : Option ((List (S102))) := if 0 ≤ (l0.length : Int) then (if ((l0.length : Int) : Int).toNat ≤ 5864062014805 then (laws_toDeliveryS.l0 k l0 (List.replicate ((l0.length : Int) : Int).toNat z102) 0) else (none)) else (none)
theorem laws_toDeliveryS.mono_l : ∀ k, (∀ y0 y1 y2, LeO (laws_toDeliveryS.l0 k y0 y1 y2) (laws_toDeliveryS.l0 (k + 1) y0 y1 y2))
 | 0 => fun _ _ _ r h => by simp [laws_toDeliveryS.l0] at h
 | k + 1 => by
  have ih0 := laws_toDeliveryS.mono_l k
  ·intro y0 y1 y2
   unfold laws_toDeliveryS.l0
   repeat' first
   | (with_reducible exact ih0 _ _ _)
   | (with_reducible exact laws_toDelivery.mono _ _ _ _ _)
   | (with_reducible exact LeO.refl _)
   | (with_reducible exact LeO.none _)
   | (with_reducible refine LeO.ite ?_ ?_)
   | (with_reducible refine LeO.bind ?_ (fun _ => ?_))
   | exact ih0 _ _ _
   | exact laws_toDelivery.mono _ _ _ _ _
   | exact LeO.none _
   | refine LeO.ite ?_ ?_
   | refine LeO.bind ?_ (fun _ => ?_)
theorem laws_toDeliveryS.mono : ∀ a0 k, LeO (laws_toDeliveryS.f k a0) (laws_toDeliveryS.f (k + 1) a0) := by
 intro a0 k
 have ih0 := laws_toDeliveryS.mono_l k
 unfold laws_toDeliveryS.f
 repeat' first
   | (with_reducible exact ih0 _ _ _)
   | (with_reducible exact laws_toDelivery.mono _ _ _ _ _)
   | (with_reducible exact LeO.refl _)
   | (with_reducible exact LeO.none _)
   | (with_reducible refine LeO.ite ?_ ?_)
   | (with_reducible refine LeO.bind ?_ (fun _ => ?_))
   | exact ih0 _ _ _
   | exact laws_toDelivery.mono _ _ _ _ _
   | exact LeO.none _
   | refine LeO.ite ?_ ?_
   | refine LeO.bind ?_ (fun _ => ?_)
set_option maxHeartbeats 8000000 in
set_option maxRecDepth 100000 in
theorem laws_toDeliveryS.calls (k : Nat) (A0 : Option Addr) (c0 : Nat) (l0 : List (S182)) (r : List (S102)) (w : World) (hr0 : Kd.C k182 w A0 l0.length l0) (hc0 : l0.length ≤ c0) (h : laws_toDeliveryS.f k l0 = some r) :
  Calls Try.prog 141 #[.slice A0 l0.length c0] w fun e w' => ∃ v0_ : Value, e = .returned (v0_) ∧ Kd.S k102 102 w' w.heap.size (fun _ => True) v0_ r ∧ Below w.heap.size w w' := by
 have hu182 := Try.underlying182
 have hu102 := Try.underlying102
 have HR0 := Am_ hr0
 have HC0 := Am_ hc0
 clear hr0 hc0
 have HB := Am_ (Below.refl w.heap.size w)
 have H : (if 0 ≤ (l0.length : Int) then (if ((l0.length : Int) : Int).toNat ≤ 5864062014805 then (laws_toDeliveryS.l0 k l0 (List.replicate ((l0.length : Int) : Int).toNat z102) 0) else (none)) else (none)) = some r := h
 clear h
 by_cases c2 : 0 ≤ (l0.length : Int)
 ·rw [if_pos c2] at H
  have c2b0 := eq_true c2
  have c2b1 : decide (0 ≤ (l0.length : Int)) = true := decide_eq_true c2
  clear c2
  by_cases c3 : ((l0.length : Int) : Int).toNat ≤ 5864062014805
  ·rw [if_pos c3] at H
   have c3b0 := eq_true c3
   have c3b1 : decide (((l0.length : Int) : Int).toNat ≤ 5864062014805) = true := decide_eq_true c3
   clear c3
   obtain ⟨y213, hy213⟩ : ∃ y_ : List (S102), y_ = (List.replicate ((l0.length : Int) : Int).toNat z102) := ⟨_, rfl⟩
   replace H : (laws_toDeliveryS.l0 k l0 y213 0) = some r := by first | (rw [hy213]; with_reducible exact H) | (have H2_ := (Option.bind_some _ _).symm.trans H; rw [hy213]; with_reducible exact H2_) | (have H2_ := (Option.bind_some _ _).symm.trans H; with_reducible exact H2_) | with_reducible exact H | (rw [hy213]; exact H) | exact H
   have Ny213 := Am_ hy213
   clear hy213
   have H' := Am_ H
   clear H
   go_enter Try.func141, Try.ntmps141
   go_wp2_with (first | ((with_reducible refine gate_dst (N := 7) rfl ?_); refine Kd.S_make k102 _ 102 rfl (N := 7) rfl 95 _ _ rfl (l0.length : Int) rfl rfl Try.underlying95 (.agg #[(.int .i64 0), (.int .i64 0), (.int .i64 0), (.slice none 0 0)]) 48 info102 rfl (by decide) (by omega) z102 (ok := fun _ => True) (okp := fun _ => True) (k102_mkM _ _ _ z102 (Kd.R_nil _ _ _ _ _)) (fun _ hk => hk) trivial (of_decide_eq_true (by first | (with_reducible assumption) | assumption)) (Nat.le_trans (Nat.mul_le_mul_right _ (of_decide_eq_true (by first | (with_reducible assumption) | assumption) : (l0.length : Int).toNat ≤ 5864062014805)) (by omega)) (Below.refl _ _) (Nat.le_refl _) ?_; intro v214 w4 ho5 hb hg_ hnew_; clear hg_ hnew_; (first | rw [← Ny213.1] at ho5 | (simp only [Int.reduceToNat] at ho5; rw [← Ny213.1] at ho5)); have n0_ := Am_ (Kd.S_lower ho5 (bZ_ (by repeat (first | (with_reducible first | exact HB.1 | apply bA_ | apply bN_ | apply bD_) | exact HB.1)))); have n1_ := Am_ (bT_ (by repeat (first | (with_reducible first | exact HB.1 | apply bA_ | apply bN_ | apply bD_) | exact HB.1)) hb); clear HB; have HO215 := n0_; have HB := n1_; clear n0_ n1_ hb ho5))
   go_loopg [4] k (fun kq v4 w' => ∃ (x3_1 : List (S102)) (x4_1 : Int), v4 = .int .i64 x4_1 ∧ Aside0 (laws_toDeliveryS.l0 kq l0 x3_1 x4_1 = some r) ∧ Aside0 (kq ≤ k) ∧ Aside0 (Kd.S k102 102 w' w.heap.size (fun _ => True) v214 x3_1) ∧ Aside0 (Below w.heap.size w w'))
   case atStart => exact ⟨(y213), (0), (by first | rfl | (simp; done) | (simp [*]; done)), H', ⟨Nat.le_refl _⟩, ⟨by (with_reducible repeat (first | apply Kd.S_alloc | apply Kd.S_drewN | apply Kd.S_drew)); exact HO215.1⟩, ⟨by repeat (first | (with_reducible first | exact HB.1 | apply bA_ | apply bN_ | apply bD_) | exact HB.1)⟩⟩
   case round =>
    clear H'
    try clear c1
    try clear c2
    try clear c2b0
    try clear c2b1
    try clear p2
    try clear c3
    try clear c3b0
    try clear c3b1
    obtain ⟨x3_1, x4_1, rfl, HA, HK1, HO_3, HB⟩ := hrel
    cases gk with
    | zero => exact absurd HA.1 (by simp [laws_toDeliveryS.l0])
    | succ k1 =>
     have H := HA.1
     clear HA
     simp only [laws_toDeliveryS.l0] at H
     by_cases c6 : x4_1 < (l0.length : Int)
     ·rw [if_pos c6] at H
      have c6b0 : decide (x4_1 < (l0.length : Int)) = true := decide_eq_true c6
      clear c6
      by_cases c7 : 0 ≤ x4_1
      ·rw [if_pos c7] at H
       have c7b0 : decide (0 ≤ x4_1) = true := decide_eq_true c7
       clear c7
       replace H := Option.bind_eq_some_iff.mp H
       obtain ⟨⟨t217, t218, t219, t220⟩, A80, H⟩ := H
       replace H : (if x4_1 < (x3_1.length : Int) then (laws_toDeliveryS.l0 k1 l0 (x3_1.set (x4_1 : Int).toNat (⟨t217, t218, t219, t220⟩ : S102)) (wrap64 (x4_1 + 1))) else (none)) = some r := H
       have A8 := Am_ A80
       clear A80
       by_cases c9 : x4_1 < (x3_1.length : Int)
       ·rw [if_pos c9] at H
        have c9b0 : decide (x4_1 < (x3_1.length : Int)) = true := decide_eq_true c9
        clear c9
        obtain ⟨y223, hy223⟩ : ∃ y_ : List (S102), y_ = (x3_1.set (x4_1 : Int).toNat (⟨t217, t218, t219, t220⟩ : S102)) := ⟨_, rfl⟩
        replace H : (laws_toDeliveryS.l0 k1 l0 y223 (wrap64 (x4_1 + 1))) = some r := by first | (rw [hy223]; with_reducible exact H) | (have H2_ := (Option.bind_some _ _).symm.trans H; rw [hy223]; with_reducible exact H2_) | (have H2_ := (Option.bind_some _ _).symm.trans H; with_reducible exact H2_) | with_reducible exact H | (rw [hy223]; exact H) | exact H
        have Ny223 := Am_ hy223
        clear hy223
        have H' := Am_ H
        clear H
        have p216 : 0 ≤ (x4_1 : Int) := of_decide_eq_true (by first | (with_reducible assumption) | assumption)
        have q216 : x4_1 < (l0.length : Int) := of_decide_eq_true (by first | (with_reducible assumption) | assumption)
        obtain ⟨ad216, A216_3, c216_3, e216, hx216_0, hx216_1, hx216_2, hx216_3, hl216_3, hi216_3⟩ := at_T182 HR0.1 x4_1 p216 q216
        cases e216
        replace hx216_0 := (HB.1.cell (World.block_lt_of_cell? w _ hx216_0)).trans hx216_0
        replace hx216_1 := (HB.1.cell (World.block_lt_of_cell? w _ hx216_1)).trans hx216_1
        replace hx216_2 := (HB.1.cell (World.block_lt_of_cell? w _ hx216_2)).trans hx216_2
        replace hx216_3 := (HB.1.cell (World.block_lt_of_cell? w _ hx216_3)).trans hx216_3
        have HR216_3 := Am_ hi216_3
        have HC216_3 := Am_ hl216_3
        clear hi216_3 hl216_3
        replace p216 := eq_true p216
        replace q216 := eq_true q216
        go_wp2_with (first | ((with_reducible refine gate_callee (f := 165) rfl ?_); refine goesL_ (some 20) rfl rfl Try.func165 (by kernel_rfl) rfl #[.agg #[.int .i64 ((rd_T182 l0 x4_1).f0), .int .i64 ((rd_T182 l0 x4_1).f1), .int .i64 ((rd_T182 l0 x4_1).f2), .slice A216_3 ((rd_T182 l0 x4_1).f3).length c216_3]] rfl (by (try simp only [List.map_toArray, List.map_cons, List.map_nil]); first | done | rfl | (simp only [List.length_drop, List.length_take]; rfl)) ?_; (with_reducible refine (laws_toDelivery.calls k1 ((rd_T182 l0 x4_1).f0) ((rd_T182 l0 x4_1).f1) ((rd_T182 l0 x4_1).f2) _ _ ((rd_T182 l0 x4_1).f3) t217 t218 t219 t220 _ ?side1 ?side2 A8.1).mono ?_); (case side1 => repeat (first | exact (Kd.C_below HR216_3.1 HB.1) | (with_reducible refine Kd.C_alloc ?_ _) | (with_reducible refine Kd.C_drewN ?_ _) | (with_reducible refine Kd.C_drew ?_))); (case side2 => exact HC216_3.1); rintro e w11 ⟨v221, rfl, ho0, hb⟩; refine ⟨_, rfl, ?_⟩; have n0_ := Am_ (Kd.S_elder' (by (with_reducible repeat (first | apply Kd.S_alloc | apply Kd.S_drewN | apply Kd.S_drew)); exact HO_3.1) (Kd.R_base ho0) hb); have n1_ := Am_ (Kd.R_lower ho0 (bZ_ (by repeat (first | (with_reducible first | exact HB.1 | apply bA_ | apply bN_ | apply bD_) | exact HB.1)))); have n2_ := Am_ (bT_ (by repeat (first | (with_reducible first | exact HB.1 | apply bA_ | apply bN_ | apply bD_) | exact HB.1)) hb); clear HO_3 HB; have HO_3 := n0_; have HO222 := n1_; have HB := n2_; clear n0_ n1_ n2_; (try clear hb); (try clear hb2); (try clear hk); (try clear hi); (try clear ho0); have p10 : 0 ≤ (x4_1 : Int) := of_decide_eq_true (by first | (with_reducible assumption) | assumption); have q10 : (x4_1 : Int) < ((x3_1.length : Int) : Int) := of_decide_eq_true (by first | (with_reducible assumption) | assumption); obtain ⟨go10, co10, eo10, gb10, gl10, cl10, HG10⟩ := Kd.S_form HO_3.1 (by omega); (first | cases eo10 | (injection eo10 with ea_ en_ ec_; (first | subst ea_ | (injection ea_ with ea_; subst ea_)); subst ec_; clear en_)); have GB10 := Am_ gb10; have GG10 := Am_ HG10; clear gb10 gl10 HG10; obtain ⟨_, ce10, hcl10, hM10, hcc10, hfr10, _, _⟩ := Kd.S_elem HO_3.1 z102 (x4_1 : Int) p10 q10; obtain ⟨ve10_3, rfl, ge10_3⟩ := k102_openM hM10; have hx10_0 : w11.cell? ⟨go10, (x4_1 : Int).toNat * 4, none⟩ = some (.int .i64 ((rd_T102 x3_1 x4_1).f0)) := hcc10 0 _ rfl; have hx10_1 : w11.cell? ⟨go10, (x4_1 : Int).toNat * 4 + 1, none⟩ = some (.int .i64 ((rd_T102 x3_1 x4_1).f1)) := hcc10 1 _ rfl; have hx10_2 : w11.cell? ⟨go10, (x4_1 : Int).toNat * 4 + 2, none⟩ = some (.int .i64 ((rd_T102 x3_1 x4_1).f2)) := hcc10 2 _ rfl; have hx10_3 : w11.cell? ⟨go10, (x4_1 : Int).toNat * 4 + 3, none⟩ = some (ve10_3) := hcc10 3 _ rfl; have hf10_0 : w11.frozen? ⟨go10, (x4_1 : Int).toNat * 4, none⟩ = false := hfr10 0; have hf10_1 : w11.frozen? ⟨go10, (x4_1 : Int).toNat * 4 + 1, none⟩ = false := hfr10 1; have hf10_2 : w11.frozen? ⟨go10, (x4_1 : Int).toNat * 4 + 2, none⟩ = false := hfr10 2; have hf10_3 : w11.frozen? ⟨go10, (x4_1 : Int).toNat * 4 + 3, none⟩ = false := hfr10 3; clear hcl10 hcc10 hfr10 hM10; replace p10 := eq_true p10; replace q10 := eq_true q10; have n_ := Am_ (Kd.S_mono (ok' := (fun k_ => some k_ ≠ (v221 : Value).ownBlock)) HO_3.1 (fun k_ hk => hk.2)); clear HO_3; have HO_3 := n_; clear n_; have HX12 := Am_ (show Kd.S k102 102 w11 w.heap.size (fun k_ => ((fun _ => True)) k_ ∧ ¬ ((fun k_ => some k_ = (v221 : Value).ownBlock)) k_) (.slice (some ⟨go10, 0, none⟩) x3_1.length co10) x3_1 from (by (with_reducible repeat (first | apply Kd.S_alloc | apply Kd.S_drewN | apply Kd.S_drew)); exact Kd.S_mono HO_3.1 (fun k_ hk => ⟨trivial, fun e_ => hk e_⟩))); obtain ⟨oki12, ce12, hcl12, hM12, hcc12, hfr12, hoki12, hH12⟩ := Kd.S_elem HX12.out z102 (x4_1 : Int) (of_decide_eq_true (by first | (with_reducible assumption) | assumption)) (by have h_ : (x4_1 : Int) < ((x3_1.length : Int) : Int) := of_decide_eq_true (by first | (with_reducible assumption) | assumption); first | exact h_ | (have e_ := (Kd.S_reads' HO_3.1).1; omega) | simpa using h_); obtain ⟨ve12_3, rfl, ge12_3⟩ := k102_openM hM12; have HP12 := Kd.S_seg hH12 (of_decide_eq_true (by first | (with_reducible assumption) | assumption)) (by have h_ : (x4_1 : Int) < ((x3_1.length : Int) : Int) := of_decide_eq_true (by first | (with_reducible assumption) | assumption); first | exact h_ | (have e_ := (Kd.S_reads' HO_3.1).1; omega) | simpa using h_) (seg := [.int .i64 t217, .int .i64 t218, .int .i64 t219, v221]) (j := 0) (show 4 ≤ 4 from by decide) (x' := (⟨t217, t218, t219, t220⟩ : S102)) (k102_mkM _ _ _ (⟨t217, t218, t219, t220⟩ : S102) (Kd.R_mono (Kd.R_tight rfl (Kd.R_mono (ok' := fun k_ => ((fun _ => True)) k_ ∧ k_ ≠ go10) (Kd.R_apart' (HO222.1) (Kd.S_typed HO_3.1) (by decide)) (fun k_ hk => ⟨trivial, fun e_ => (hk.2) (by rw [e_]; rfl)⟩))) (fun _ h_ => Or.inr (h_)))) (fun _ hk => hk) (fun k_ hk_ => ((Kd.R_mono (ok' := fun k_ => ((fun _ => True)) k_ ∧ k_ ≠ go10) (Kd.R_apart' (HO222.1) (Kd.S_typed HO_3.1) (by decide)) (fun k_ hk => ⟨trivial, fun e_ => (hk.2) (by rw [e_]; rfl)⟩))).1 k_ hk_.symm); have hx12_0 := hcc12 0 _ rfl; (try simp only [show (k102).sz = 4 from rfl, Nat.mul_one, Nat.add_zero] at hx12_0); have hf12_0 := hfr12 0; (try simp only [show (k102).sz = 4 from rfl, Nat.mul_one, Nat.add_zero] at hf12_0); have hx12_1 := hcc12 1 _ rfl; (try simp only [show (k102).sz = 4 from rfl, Nat.mul_one, Nat.add_zero] at hx12_1); have hf12_1 := hfr12 1; (try simp only [show (k102).sz = 4 from rfl, Nat.mul_one, Nat.add_zero] at hf12_1); have hx12_2 := hcc12 2 _ rfl; (try simp only [show (k102).sz = 4 from rfl, Nat.mul_one, Nat.add_zero] at hx12_2); have hf12_2 := hfr12 2; (try simp only [show (k102).sz = 4 from rfl, Nat.mul_one, Nat.add_zero] at hf12_2); have hx12_3 := hcc12 3 _ rfl; (try simp only [show (k102).sz = 4 from rfl, Nat.mul_one, Nat.add_zero] at hx12_3); have hf12_3 := hfr12 3; (try simp only [show (k102).sz = 4 from rfl, Nat.mul_one, Nat.add_zero] at hf12_3); clear hcl12 hcc12 hfr12 hM12 hoki12 hH12) | ((with_reducible refine gate_store (t := 102) (p := 21) rfl ?_); refine store_event (t := 102) (p := 21) (v := ?vo_w13) (w1 := ((((w11.setCell ⟨go10, (x4_1 : Int).toNat * 4, none⟩ (.int .i64 t217)).setCell ⟨go10, (x4_1 : Int).toNat * 4 + 1, none⟩ (.int .i64 t218)).setCell ⟨go10, (x4_1 : Int).toNat * 4 + 2, none⟩ (.int .i64 t219)).setCell ⟨go10, (x4_1 : Int).toNat * 4 + 3, none⟩ (v221))) ?hg ?ho ?hn ?hr ?_; (case ho => rfl); (case hg => rfl); (case hn => rfl); (case hr => first | (go_simp; done) | (go_simp; rfl) | (obtain ⟨_, _, _, hsh0_⟩ := (show ∃ A n c, v221 = Value.slice A n c from by first | exact Go.Proofs.Ytlkofdedkfmaeaa.X.R_shape HO215.1 | exact Go.Proofs.Ytlkofdedkfmaeaa.X.R_shape (Kd.S_R HO215.1) | exact Go.Proofs.Ytlkofdedkfmaeaa.X.R_shape HO222.1 | exact Go.Proofs.Ytlkofdedkfmaeaa.X.R_shape (Kd.S_R HO222.1)); cases hsh0_; first | (go_simp; done) | (go_simp; rfl))); intro w13 hw; have hg : w11.grownBy w13 (some go10) := (by rw [hw]; exact HP12.2); have hp_ : Kd.S k102 102 w13 w.heap.size (fun _ => True) (.slice (some ⟨go10, 0, none⟩) x3_1.length co10) y223 := (by rw [hw, Ny223.1]; exact HP12.1); clear HP12; have n0_ := Am_ (hp_); have n1_ := Am_ ((by rw [hw]; exact bS_ (bS_ (bS_ (bS_ (HB.1) GB10.out) GB10.out) GB10.out) GB10.out : Below w.heap.size w w13)); clear HO_3 HB HO222; have HO_3 := n0_; have HB := n1_; clear n0_ n1_ hg hw hp_))
        go_roundg k1
        case measure => have := HK1.1; omega
        case rel => exact ⟨(y223), (wrap64 (x4_1 + 1)), (by first | rfl | (simp; done) | (simp [*]; done)), H', ⟨by have := HK1.1; omega⟩, ⟨by (with_reducible repeat (first | apply Kd.S_alloc | apply Kd.S_drewN | apply Kd.S_drew)); exact HO_3.1⟩, ⟨by repeat (first | (with_reducible first | exact HB.1 | apply bA_ | apply bN_ | apply bD_) | exact HB.1)⟩⟩
       ·rw [if_neg c9] at H
        exact absurd H (by simp)
      ·rw [if_neg c7] at H
       exact absurd H (by simp)
     ·rw [if_neg c6] at H
      have c6b0 : decide (x4_1 < (l0.length : Int)) = false := decide_eq_false c6
      clear c6
      obtain rfl := Option.some.inj H
      go_wp2
      go_ret
      exact ⟨_, by first | rfl | (simp [errW_none, errW_some] <;> rfl) | (simp [*, errW_none, errW_some] <;> rfl), by (with_reducible repeat (first | apply Kd.S_alloc | apply Kd.S_drewN | apply Kd.S_drew)); exact HO_3.1, by repeat (first | (with_reducible first | exact HB.1 | apply bA_ | apply bN_ | apply bD_) | exact HB.1)⟩
  ·rw [if_neg c3] at H
   exact absurd H (by simp)
 ·rw [if_neg c2] at H
  exact absurd H (by simp)

/-! ### laws_toAirStation: function 101 -/
def laws_toAirStation.f (k : Nat) (l0_0 : List (S200)) (a0_1 : Int) (a0_2 : Bool) (a0_3 : Int) (a0_4 : Int) (a0_5 : Int) (l0_6 : List Int) (a0_7 : Bool) (a0_8 : Int) (a0_9 : Int) (a0_10 : Int) (a0_11 : Int) (a0_12 : Int) (a0_13 : Int) (a0_14 : Int) (a0_15 : Int) (a0_16 : Int) (l0_17 : List (S128)) (a0_18 : Int) (a0_19 : Int) (l0_20 : List (S187)) (l0_21 : List (S182)) : Option ((List (S173)) × Int × Bool × Int × Int × Int × List Int × Bool × Int × Int × Int × Int × Int × Int × Int × Int × Int × (List (S88)) × Int × Int × (List (S141)) × (List (S102))) := (laws_toTransmitQueue.f k l0_0 a0_1).bind fun bt227 => ((laws_toAirFrame.f k a0_3 a0_4 a0_5 l0_6 a0_7).bind fun bt231 => ((laws_toBackoff.f a0_8 a0_9 a0_10 a0_11 a0_12 a0_13 a0_14 a0_15 a0_16).bind fun bt238 => ((laws_toAirFrameS.f k l0_17).bind fun t247 => ((laws_toSeenFrameS.f k l0_20).bind fun t250 => ((laws_toDeliveryS.f k l0_21).bind fun t253 => (some (bt227.1, bt227.2, a0_2, bt231.1, bt231.2.1, bt231.2.2.1, bt231.2.2.2.1, bt231.2.2.2.2, bt238.1, bt238.2.1, bt238.2.2.1, bt238.2.2.2.1, bt238.2.2.2.2.1, bt238.2.2.2.2.2.1, bt238.2.2.2.2.2.2.1, bt238.2.2.2.2.2.2.2.1, bt238.2.2.2.2.2.2.2.2, t247, a0_18, a0_19, t250, t253)))))))
theorem laws_toAirStation.mono : ∀ a0 a1 a2 a3 a4 a5 a6 a7 a8 a9 a10 a11 a12 a13 a14 a15 a16 a17 a18 a19 a20 a21 k, LeO (laws_toAirStation.f k a0 a1 a2 a3 a4 a5 a6 a7 a8 a9 a10 a11 a12 a13 a14 a15 a16 a17 a18 a19 a20 a21) (laws_toAirStation.f (k + 1) a0 a1 a2 a3 a4 a5 a6 a7 a8 a9 a10 a11 a12 a13 a14 a15 a16 a17 a18 a19 a20 a21) := by
 intro a0 a1 a2 a3 a4 a5 a6 a7 a8 a9 a10 a11 a12 a13 a14 a15 a16 a17 a18 a19 a20 a21 k
 unfold laws_toAirStation.f
 repeat' first
   | (with_reducible exact laws_toAirFrame.mono _ _ _ _ _ _)
   | (with_reducible exact laws_toAirFrameS.mono _ _)
   | (with_reducible exact laws_toDeliveryS.mono _ _)
   | (with_reducible exact laws_toSeenFrameS.mono _ _)
   | (with_reducible exact laws_toTransmitQueue.mono _ _ _)
   | (with_reducible exact LeO.refl _)
   | (with_reducible exact LeO.none _)
   | (with_reducible refine LeO.ite ?_ ?_)
   | (with_reducible refine LeO.bind ?_ (fun _ => ?_))
   | exact laws_toAirFrame.mono _ _ _ _ _ _
   | exact laws_toAirFrameS.mono _ _
   | exact laws_toDeliveryS.mono _ _
   | exact laws_toSeenFrameS.mono _ _
   | exact laws_toTransmitQueue.mono _ _ _
   | exact LeO.none _
   | refine LeO.ite ?_ ?_
   | refine LeO.bind ?_ (fun _ => ?_)
set_option maxHeartbeats 8000000 in
set_option maxRecDepth 100000 in
theorem laws_toAirStation.calls (k : Nat) (A0_0 : Option Addr) (c0_0 : Nat) (l0_0 : List (S200)) (a0_1 : Int) (a0_2 : Bool) (a0_3 : Int) (a0_4 : Int) (a0_5 : Int) (A0_6 : Option Addr) (c0_6 : Nat) (l0_6 : List Int) (a0_7 : Bool) (a0_8 : Int) (a0_9 : Int) (a0_10 : Int) (a0_11 : Int) (a0_12 : Int) (a0_13 : Int) (a0_14 : Int) (a0_15 : Int) (a0_16 : Int) (A0_17 : Option Addr) (c0_17 : Nat) (l0_17 : List (S128)) (a0_18 : Int) (a0_19 : Int) (A0_20 : Option Addr) (c0_20 : Nat) (l0_20 : List (S187)) (A0_21 : Option Addr) (c0_21 : Nat) (l0_21 : List (S182)) (r1 : List (S173)) (r2 : Int) (r3 : Bool) (r4 : Int) (r5 : Int) (r6 : Int) (r7 : List Int) (r8 : Bool) (r9 : Int) (r10 : Int) (r11 : Int) (r12 : Int) (r13 : Int) (r14 : Int) (r15 : Int) (r16 : Int) (r17 : Int) (r18 : List (S88)) (r19 : Int) (r20 : Int) (r21 : List (S141)) (r22 : List (S102)) (w : World) (hr0_0 : Kd.C k200 w A0_0 l0_0.length l0_0) (hc0_0 : l0_0.length ≤ c0_0) (hr0_6 : Kd.C (Kd.int .u8) w A0_6 l0_6.length l0_6) (hc0_6 : l0_6.length ≤ c0_6) (hr0_17 : Kd.C k128 w A0_17 l0_17.length l0_17) (hc0_17 : l0_17.length ≤ c0_17) (hr0_20 : Kd.C k187 w A0_20 l0_20.length l0_20) (hc0_20 : l0_20.length ≤ c0_20) (hr0_21 : Kd.C k182 w A0_21 l0_21.length l0_21) (hc0_21 : l0_21.length ≤ c0_21) (h : laws_toAirStation.f k l0_0 a0_1 a0_2 a0_3 a0_4 a0_5 l0_6 a0_7 a0_8 a0_9 a0_10 a0_11 a0_12 a0_13 a0_14 a0_15 a0_16 l0_17 a0_18 a0_19 l0_20 l0_21 = some (r1, r2, r3, r4, r5, r6, r7, r8, r9, r10, r11, r12, r13, r14, r15, r16, r17, r18, r19, r20, r21, r22)) :
  Calls Try.prog 101 #[.agg #[.slice A0_0 l0_0.length c0_0, .int .i64 a0_1, .bool a0_2, .int .i64 a0_3, .int .i64 a0_4, .int .i64 a0_5, .slice A0_6 l0_6.length c0_6, .bool a0_7, .int .i64 a0_8, .int .i64 a0_9, .int .i64 a0_10, .int .i64 a0_11, .int .i64 a0_12, .int .i64 a0_13, .int .i64 a0_14, .int .i64 a0_15, .int .i64 a0_16, .slice A0_17 l0_17.length c0_17, .int .i64 a0_18, .int .i64 a0_19, .slice A0_20 l0_20.length c0_20, .slice A0_21 l0_21.length c0_21]] w fun e w' => ∃ v0_ v6_ v17_ v20_ v21_ : Value, e = .returned (.agg #[v0_, .int .i64 r2, .bool r3, .int .i64 r4, .int .i64 r5, .int .i64 r6, v6_, .bool r8, .int .i64 r9, .int .i64 r10, .int .i64 r11, .int .i64 r12, .int .i64 r13, .int .i64 r14, .int .i64 r15, .int .i64 r16, .int .i64 r17, v17_, .int .i64 r19, .int .i64 r20, v20_, v21_]) ∧ Kd.S k173 173 w' w.heap.size (fun k_ => some k_ ≠ (v6_ : Value).ownBlock) v0_ r1 ∧ Kd.R (Kd.int .u8) 5 w' w.heap.size (fun _ => True) v6_ r7 ∧ Kd.S k88 88 w' w.heap.size (fun k_ => some k_ ≠ (v6_ : Value).ownBlock) v17_ r18 ∧ Kd.R k141 141 w' w.heap.size (fun _ => True) v20_ r21 ∧ Kd.S k102 102 w' w.heap.size (fun k_ => some k_ ≠ (v6_ : Value).ownBlock) v21_ r22 ∧ Below w.heap.size w w' := by
 have hu136 := Try.underlying136
 have hu97 := Try.underlying97
 have hu127 := Try.underlying127
 have hu85 := Try.underlying85
 have hu128 := Try.underlying128
 have hu88 := Try.underlying88
 have hu131 := Try.underlying131
 have hu92 := Try.underlying92
 have HR0_0 := Am_ hr0_0
 have HC0_0 := Am_ hc0_0
 clear hr0_0 hc0_0
 have HR0_6 := Am_ hr0_6
 have HC0_6 := Am_ hc0_6
 clear hr0_6 hc0_6
 have HR0_17 := Am_ hr0_17
 have HC0_17 := Am_ hc0_17
 clear hr0_17 hc0_17
 have HR0_20 := Am_ hr0_20
 have HC0_20 := Am_ hc0_20
 clear hr0_20 hc0_20
 have HR0_21 := Am_ hr0_21
 have HC0_21 := Am_ hc0_21
 clear hr0_21 hc0_21
 have H : ((laws_toTransmitQueue.f k l0_0 a0_1).bind fun bt227 => ((laws_toAirFrame.f k a0_3 a0_4 a0_5 l0_6 a0_7).bind fun bt231 => ((laws_toBackoff.f a0_8 a0_9 a0_10 a0_11 a0_12 a0_13 a0_14 a0_15 a0_16).bind fun bt238 => ((laws_toAirFrameS.f k l0_17).bind fun t247 => ((laws_toSeenFrameS.f k l0_20).bind fun t250 => ((laws_toDeliveryS.f k l0_21).bind fun t253 => (some (bt227.1, bt227.2, a0_2, bt231.1, bt231.2.1, bt231.2.2.1, bt231.2.2.2.1, bt231.2.2.2.2, bt238.1, bt238.2.1, bt238.2.2.1, bt238.2.2.2.1, bt238.2.2.2.2.1, bt238.2.2.2.2.2.1, bt238.2.2.2.2.2.2.1, bt238.2.2.2.2.2.2.2.1, bt238.2.2.2.2.2.2.2.2, t247, a0_18, a0_19, t250, t253)))))))) = some (r1, r2, r3, r4, r5, r6, r7, r8, r9, r10, r11, r12, r13, r14, r15, r16, r17, r18, r19, r20, r21, r22) := h
 clear h
 replace H := Option.bind_eq_some_iff.mp H
 obtain ⟨⟨t227, t230⟩, A20, H⟩ := H
 replace H : ((laws_toAirFrame.f k a0_3 a0_4 a0_5 l0_6 a0_7).bind fun bt231 => ((laws_toBackoff.f a0_8 a0_9 a0_10 a0_11 a0_12 a0_13 a0_14 a0_15 a0_16).bind fun bt238 => ((laws_toAirFrameS.f k l0_17).bind fun t247 => ((laws_toSeenFrameS.f k l0_20).bind fun t250 => ((laws_toDeliveryS.f k l0_21).bind fun t253 => (some (t227, t230, a0_2, bt231.1, bt231.2.1, bt231.2.2.1, bt231.2.2.2.1, bt231.2.2.2.2, bt238.1, bt238.2.1, bt238.2.2.1, bt238.2.2.2.1, bt238.2.2.2.2.1, bt238.2.2.2.2.2.1, bt238.2.2.2.2.2.2.1, bt238.2.2.2.2.2.2.2.1, bt238.2.2.2.2.2.2.2.2, t247, a0_18, a0_19, t250, t253))))))) = some (r1, r2, r3, r4, r5, r6, r7, r8, r9, r10, r11, r12, r13, r14, r15, r16, r17, r18, r19, r20, r21, r22) := H
 have A2 := Am_ A20
 clear A20
 replace H := Option.bind_eq_some_iff.mp H
 obtain ⟨⟨t231, t232, t233, t234, t237⟩, A30, H⟩ := H
 replace H : ((laws_toBackoff.f a0_8 a0_9 a0_10 a0_11 a0_12 a0_13 a0_14 a0_15 a0_16).bind fun bt238 => ((laws_toAirFrameS.f k l0_17).bind fun t247 => ((laws_toSeenFrameS.f k l0_20).bind fun t250 => ((laws_toDeliveryS.f k l0_21).bind fun t253 => (some (t227, t230, a0_2, t231, t232, t233, t234, t237, bt238.1, bt238.2.1, bt238.2.2.1, bt238.2.2.2.1, bt238.2.2.2.2.1, bt238.2.2.2.2.2.1, bt238.2.2.2.2.2.2.1, bt238.2.2.2.2.2.2.2.1, bt238.2.2.2.2.2.2.2.2, t247, a0_18, a0_19, t250, t253)))))) = some (r1, r2, r3, r4, r5, r6, r7, r8, r9, r10, r11, r12, r13, r14, r15, r16, r17, r18, r19, r20, r21, r22) := H
 have A3 := Am_ A30
 clear A30
 replace H := Option.bind_eq_some_iff.mp H
 obtain ⟨⟨t238, t239, t240, t241, t242, t243, t244, t245, t246⟩, A40, H⟩ := H
 replace H : ((laws_toAirFrameS.f k l0_17).bind fun t247 => ((laws_toSeenFrameS.f k l0_20).bind fun t250 => ((laws_toDeliveryS.f k l0_21).bind fun t253 => (some (t227, t230, a0_2, t231, t232, t233, t234, t237, t238, t239, t240, t241, t242, t243, t244, t245, t246, t247, a0_18, a0_19, t250, t253))))) = some (r1, r2, r3, r4, r5, r6, r7, r8, r9, r10, r11, r12, r13, r14, r15, r16, r17, r18, r19, r20, r21, r22) := H
 have A4 := Am_ A40
 clear A40
 replace H := Option.bind_eq_some_iff.mp H
 obtain ⟨t247, A50, H⟩ := H
 replace H : ((laws_toSeenFrameS.f k l0_20).bind fun t250 => ((laws_toDeliveryS.f k l0_21).bind fun t253 => (some (t227, t230, a0_2, t231, t232, t233, t234, t237, t238, t239, t240, t241, t242, t243, t244, t245, t246, t247, a0_18, a0_19, t250, t253)))) = some (r1, r2, r3, r4, r5, r6, r7, r8, r9, r10, r11, r12, r13, r14, r15, r16, r17, r18, r19, r20, r21, r22) := H
 have A5 := Am_ A50
 clear A50
 replace H := Option.bind_eq_some_iff.mp H
 obtain ⟨t250, A60, H⟩ := H
 replace H : ((laws_toDeliveryS.f k l0_21).bind fun t253 => (some (t227, t230, a0_2, t231, t232, t233, t234, t237, t238, t239, t240, t241, t242, t243, t244, t245, t246, t247, a0_18, a0_19, t250, t253))) = some (r1, r2, r3, r4, r5, r6, r7, r8, r9, r10, r11, r12, r13, r14, r15, r16, r17, r18, r19, r20, r21, r22) := H
 have A6 := Am_ A60
 clear A60
 replace H := Option.bind_eq_some_iff.mp H
 obtain ⟨t253, A70, H⟩ := H
 replace H : (some (t227, t230, a0_2, t231, t232, t233, t234, t237, t238, t239, t240, t241, t242, t243, t244, t245, t246, t247, a0_18, a0_19, t250, t253)) = some (r1, r2, r3, r4, r5, r6, r7, r8, r9, r10, r11, r12, r13, r14, r15, r16, r17, r18, r19, r20, r21, r22) := H
 have A7 := Am_ A70
 clear A70
 simp only [Option.some.injEq, Prod.mk.injEq] at H
 obtain ⟨rfl, rfl, rfl, rfl, rfl, rfl, rfl, rfl, rfl, rfl, rfl, rfl, rfl, rfl, rfl, rfl, rfl, rfl, rfl, rfl, rfl, rfl⟩ := H
 refine Go.Proofs.Ytlkofdedkfmaeaa.SL.enter 37 Try.func101 (h := ?_)
 have I := Go.Proofs.Ytlkofdedkfmaeaa.SL.Inv.start w
 refine Go.Proofs.Ytlkofdedkfmaeaa.SL.sg ?_
 refine Go.Proofs.Ytlkofdedkfmaeaa.SL.ev_bx I (h := ?_); intro g1 y1 I
 refine Go.Proofs.Ytlkofdedkfmaeaa.SL.ev_al I (hi := info97) (h := ?_); intro g2 y2 I
 refine Go.Proofs.Ytlkofdedkfmaeaa.SL.nx ?_
 refine Go.Proofs.Ytlkofdedkfmaeaa.SL.sg ?_
 refine Go.Proofs.Ytlkofdedkfmaeaa.SL.ev_al I (hi := info97) (h := ?_); intro g3 y3 I
 refine Go.Proofs.Ytlkofdedkfmaeaa.SL.nx ?_
 refine Go.Proofs.Ytlkofdedkfmaeaa.SL.sg ?_
 refine Go.Proofs.Ytlkofdedkfmaeaa.SL.ev_fld 0 (hu := Try.underlying136) (h := ?_)
 refine Go.Proofs.Ytlkofdedkfmaeaa.SL.ev_ldn I 0 2 (hu := Try.underlying127) (h := ?_)
 refine Go.Proofs.Ytlkofdedkfmaeaa.SL.ev_call I (hc := laws_toTransmitQueue.calls k _ _ l0_0 a0_1 t227 t230 _ (Kd.C_below HR0_0.1 I.below) HC0_0.1 A2.1) (hf := Try.func136) (h := ?_)
 rintro e y4 ⟨v228, rfl, ho, hb⟩; obtain ⟨_, _, rfl⟩ := Kd.S_slice ho; refine ⟨_, rfl, ?_⟩; have I := Go.Proofs.Ytlkofdedkfmaeaa.SL.addS I hb ho
 refine Go.Proofs.Ytlkofdedkfmaeaa.SL.ev_fld 0 (hu := Try.underlying97) (h := ?_)
 refine Go.Proofs.Ytlkofdedkfmaeaa.SL.ev_st I 2 (h := ?_); intro y5 I
 refine Go.Proofs.Ytlkofdedkfmaeaa.SL.nx ?_
 refine Go.Proofs.Ytlkofdedkfmaeaa.SL.sg ?_
 refine Go.Proofs.Ytlkofdedkfmaeaa.SL.ev_fld 2 (hu := Try.underlying136) (h := ?_)
 refine Go.Proofs.Ytlkofdedkfmaeaa.SL.ev_ld I 0 (hu := Try.underlying4) (h := ?_)
 refine Go.Proofs.Ytlkofdedkfmaeaa.SL.ev_fld 2 (hu := Try.underlying97) (h := ?_)
 refine Go.Proofs.Ytlkofdedkfmaeaa.SL.ev_st I 2 (h := ?_); intro y6 I
 refine Go.Proofs.Ytlkofdedkfmaeaa.SL.nx ?_
 refine Go.Proofs.Ytlkofdedkfmaeaa.SL.sg ?_
 refine Go.Proofs.Ytlkofdedkfmaeaa.SL.ev_fld 3 (hu := Try.underlying136) (h := ?_)
 refine Go.Proofs.Ytlkofdedkfmaeaa.SL.ev_ldn I 0 5 (hu := Try.underlying128) (h := ?_)
 refine Go.Proofs.Ytlkofdedkfmaeaa.SL.ev_call I (hc := laws_toAirFrame.calls k a0_3 a0_4 a0_5 _ _ l0_6 a0_7 t231 t232 t233 t234 t237 _ (Kd.C_below HR0_6.1 I.below) HC0_6.1 A3.1) (hf := Try.func137) (h := ?_)
 rintro e y7 ⟨v235, rfl, ho, hb⟩; obtain ⟨_, _, rfl⟩ := Kd.R_slice ho; refine ⟨_, rfl, ?_⟩; have I := Go.Proofs.Ytlkofdedkfmaeaa.SL.addR I hb ho
 refine Go.Proofs.Ytlkofdedkfmaeaa.SL.ev_fld 3 (hu := Try.underlying97) (h := ?_)
 refine Go.Proofs.Ytlkofdedkfmaeaa.SL.ev_st I 2 (h := ?_); intro y8 I
 refine Go.Proofs.Ytlkofdedkfmaeaa.SL.nx ?_
 refine Go.Proofs.Ytlkofdedkfmaeaa.SL.sg ?_
 refine Go.Proofs.Ytlkofdedkfmaeaa.SL.ev_fld 8 (hu := Try.underlying136) (h := ?_)
 refine Go.Proofs.Ytlkofdedkfmaeaa.SL.ev_ldn I 0 9 (hu := Try.underlying131) (h := ?_)
 refine Go.Proofs.Ytlkofdedkfmaeaa.SL.ev_call I (hc := laws_toBackoff.calls a0_8 a0_9 a0_10 a0_11 a0_12 a0_13 a0_14 a0_15 a0_16 t238 t239 t240 t241 t242 t243 t244 t245 t246 _ A4.1) (hf := Try.func138) (h := ?_)
 rintro e y9 ⟨rfl, hb⟩; refine ⟨_, rfl, ?_⟩; have I := Go.Proofs.Ytlkofdedkfmaeaa.SL.Inv.grow I hb
 refine Go.Proofs.Ytlkofdedkfmaeaa.SL.ev_fld 8 (hu := Try.underlying97) (h := ?_)
 refine Go.Proofs.Ytlkofdedkfmaeaa.SL.ev_st I 2 (h := ?_); intro y10 I
 refine Go.Proofs.Ytlkofdedkfmaeaa.SL.nx ?_
 refine Go.Proofs.Ytlkofdedkfmaeaa.SL.sg ?_
 refine Go.Proofs.Ytlkofdedkfmaeaa.SL.ev_fld 17 (hu := Try.underlying136) (h := ?_)
 refine Go.Proofs.Ytlkofdedkfmaeaa.SL.ev_ld I 0 (hu := Try.underlying132) (h := ?_)
 refine Go.Proofs.Ytlkofdedkfmaeaa.SL.ev_call I (hc := laws_toAirFrameS.calls k _ _ l0_17 t247 _ (Kd.C_below HR0_17.1 I.below) HC0_17.1 A5.1) (hf := Try.func139) (h := ?_)
 rintro e y11 ⟨v248, rfl, ho, hb⟩; obtain ⟨_, _, rfl⟩ := Kd.S_slice ho; refine ⟨_, rfl, ?_⟩; have I := Go.Proofs.Ytlkofdedkfmaeaa.SL.addS I hb ho
 refine Go.Proofs.Ytlkofdedkfmaeaa.SL.ev_fld 17 (hu := Try.underlying97) (h := ?_)
 refine Go.Proofs.Ytlkofdedkfmaeaa.SL.ev_st I 2 (h := ?_); intro y12 I
 refine Go.Proofs.Ytlkofdedkfmaeaa.SL.nx ?_
 refine Go.Proofs.Ytlkofdedkfmaeaa.SL.sg ?_
 refine Go.Proofs.Ytlkofdedkfmaeaa.SL.ev_fld 18 (hu := Try.underlying136) (h := ?_)
 refine Go.Proofs.Ytlkofdedkfmaeaa.SL.ev_ld I 0 (hu := Try.underlying3) (h := ?_)
 refine Go.Proofs.Ytlkofdedkfmaeaa.SL.ev_fld 18 (hu := Try.underlying97) (h := ?_)
 refine Go.Proofs.Ytlkofdedkfmaeaa.SL.ev_st I 2 (h := ?_); intro y13 I
 refine Go.Proofs.Ytlkofdedkfmaeaa.SL.nx ?_
 refine Go.Proofs.Ytlkofdedkfmaeaa.SL.sg ?_
 refine Go.Proofs.Ytlkofdedkfmaeaa.SL.ev_fld 19 (hu := Try.underlying136) (h := ?_)
 refine Go.Proofs.Ytlkofdedkfmaeaa.SL.ev_ld I 0 (hu := Try.underlying3) (h := ?_)
 refine Go.Proofs.Ytlkofdedkfmaeaa.SL.ev_fld 19 (hu := Try.underlying97) (h := ?_)
 refine Go.Proofs.Ytlkofdedkfmaeaa.SL.ev_st I 2 (h := ?_); intro y14 I
 refine Go.Proofs.Ytlkofdedkfmaeaa.SL.nx ?_
 refine Go.Proofs.Ytlkofdedkfmaeaa.SL.sg ?_
 refine Go.Proofs.Ytlkofdedkfmaeaa.SL.ev_fld 20 (hu := Try.underlying136) (h := ?_)
 refine Go.Proofs.Ytlkofdedkfmaeaa.SL.ev_ld I 0 (hu := Try.underlying133) (h := ?_)
 refine Go.Proofs.Ytlkofdedkfmaeaa.SL.ev_call I (hc := laws_toSeenFrameS.calls k _ _ l0_20 t250 _ (Kd.C_below HR0_20.1 I.below) HC0_20.1 A6.1) (hf := Try.func140) (h := ?_)
 rintro e y15 ⟨v251, rfl, ho, hb⟩; obtain ⟨_, _, rfl⟩ := Kd.R_slice ho; refine ⟨_, rfl, ?_⟩; have I := Go.Proofs.Ytlkofdedkfmaeaa.SL.addR I hb ho
 refine Go.Proofs.Ytlkofdedkfmaeaa.SL.ev_fld 20 (hu := Try.underlying97) (h := ?_)
 refine Go.Proofs.Ytlkofdedkfmaeaa.SL.ev_st I 2 (h := ?_); intro y16 I
 refine Go.Proofs.Ytlkofdedkfmaeaa.SL.nx ?_
 refine Go.Proofs.Ytlkofdedkfmaeaa.SL.sg ?_
 refine Go.Proofs.Ytlkofdedkfmaeaa.SL.ev_fld 21 (hu := Try.underlying136) (h := ?_)
 refine Go.Proofs.Ytlkofdedkfmaeaa.SL.ev_ld I 0 (hu := Try.underlying134) (h := ?_)
 refine Go.Proofs.Ytlkofdedkfmaeaa.SL.ev_call I (hc := laws_toDeliveryS.calls k _ _ l0_21 t253 _ (Kd.C_below HR0_21.1 I.below) HC0_21.1 A7.1) (hf := Try.func141) (h := ?_)
 rintro e y17 ⟨v254, rfl, ho, hb⟩; obtain ⟨_, _, rfl⟩ := Kd.S_slice ho; refine ⟨_, rfl, ?_⟩; have I := Go.Proofs.Ytlkofdedkfmaeaa.SL.addS I hb ho
 refine Go.Proofs.Ytlkofdedkfmaeaa.SL.ev_fld 21 (hu := Try.underlying97) (h := ?_)
 refine Go.Proofs.Ytlkofdedkfmaeaa.SL.ev_st I 2 (h := ?_); intro y18 I
 refine Go.Proofs.Ytlkofdedkfmaeaa.SL.nx ?_
 refine Go.Proofs.Ytlkofdedkfmaeaa.SL.sg ?_
 refine Go.Proofs.Ytlkofdedkfmaeaa.SL.ev_ldn I 2 22 (hu := Try.underlying97) (h := ?_)
 refine Go.Proofs.Ytlkofdedkfmaeaa.SL.ev_st I 1 (h := ?_); intro y19 I
 refine Go.Proofs.Ytlkofdedkfmaeaa.SL.nx ?_
 refine wp_ret ?_
 refine Go.Proofs.Ytlkofdedkfmaeaa.SL.leave I 1 (hu := Try.underlying97) (h := ?_)
 exact ⟨_, _, _, _, _, rfl, Go.Proofs.Ytlkofdedkfmaeaa.SL.outS I 3 4, Go.Proofs.Ytlkofdedkfmaeaa.SL.outR I 4, Go.Proofs.Ytlkofdedkfmaeaa.SL.outS I 5 4, Go.Proofs.Ytlkofdedkfmaeaa.SL.outR I 6, Go.Proofs.Ytlkofdedkfmaeaa.SL.outS I 7 4, I.below⟩

/-! ### laws_toAirStationS: function 66 -/
def laws_toAirStationS.l0 : Nat → List (S136) → List (S97) → Int → Option ((List (S97)))
 | 0, _, _, _ => none
 | k + 1, x0, x3, x4 => if x4 < (x0.length : Int) then (if 0 ≤ x4 then ((laws_toAirStation.f k ((rd_T136 x0 x4).f0.f0) ((rd_T136 x0 x4).f0.f1) ((rd_T136 x0 x4).f1) ((rd_T136 x0 x4).f2.f0) ((rd_T136 x0 x4).f2.f1) ((rd_T136 x0 x4).f2.f2) ((rd_T136 x0 x4).f2.f3) ((rd_T136 x0 x4).f2.f4) ((rd_T136 x0 x4).f3.f0.f0) ((rd_T136 x0 x4).f3.f0.f1) ((rd_T136 x0 x4).f3.f0.f2) ((rd_T136 x0 x4).f3.f0.f3) ((rd_T136 x0 x4).f3.f1) ((rd_T136 x0 x4).f3.f2) ((rd_T136 x0 x4).f3.f3) ((rd_T136 x0 x4).f3.f4) ((rd_T136 x0 x4).f3.f5) ((rd_T136 x0 x4).f4) ((rd_T136 x0 x4).f5) ((rd_T136 x0 x4).f6) ((rd_T136 x0 x4).f7) ((rd_T136 x0 x4).f8)).bind fun bt260 => (if x4 < (x3.length : Int) then (laws_toAirStationS.l0 k x0 (x3.set (x4 : Int).toNat (⟨(⟨bt260.1, bt260.2.1⟩ : S85), bt260.2.2.1, (⟨bt260.2.2.2.1, bt260.2.2.2.2.1, bt260.2.2.2.2.2.1, bt260.2.2.2.2.2.2.1, bt260.2.2.2.2.2.2.2.1⟩ : S88), (⟨(⟨bt260.2.2.2.2.2.2.2.2.1, bt260.2.2.2.2.2.2.2.2.2.1, bt260.2.2.2.2.2.2.2.2.2.2.1, bt260.2.2.2.2.2.2.2.2.2.2.2.1⟩ : S90), bt260.2.2.2.2.2.2.2.2.2.2.2.2.1, bt260.2.2.2.2.2.2.2.2.2.2.2.2.2.1, bt260.2.2.2.2.2.2.2.2.2.2.2.2.2.2.1, bt260.2.2.2.2.2.2.2.2.2.2.2.2.2.2.2.1, bt260.2.2.2.2.2.2.2.2.2.2.2.2.2.2.2.2.1⟩ : S92), bt260.2.2.2.2.2.2.2.2.2.2.2.2.2.2.2.2.2.1, bt260.2.2.2.2.2.2.2.2.2.2.2.2.2.2.2.2.2.2.1, bt260.2.2.2.2.2.2.2.2.2.2.2.2.2.2.2.2.2.2.2.1, bt260.2.2.2.2.2.2.2.2.2.2.2.2.2.2.2.2.2.2.2.2.1, bt260.2.2.2.2.2.2.2.2.2.2.2.2.2.2.2.2.2.2.2.2.2⟩ : S97)) (wrap64 (x4 + 1))) else (none))) else (none)) else (some x3)
def laws_toAirStationS.f (k : Nat) (l0 : List (S136)) : Option ((List (S97))) := if 0 ≤ (l0.length : Int) then (if ((l0.length : Int) : Int).toNat ≤ 1099511627776 then (laws_toAirStationS.l0 k l0 (List.replicate ((l0.length : Int) : Int).toNat z97) 0) else (none)) else (none)
theorem laws_toAirStationS.mono_l : ∀ k, (∀ y0 y1 y2, LeO (laws_toAirStationS.l0 k y0 y1 y2) (laws_toAirStationS.l0 (k + 1) y0 y1 y2))
 | 0 => fun _ _ _ r h => by simp [laws_toAirStationS.l0] at h
 | k + 1 => by
  have ih0 := laws_toAirStationS.mono_l k
  ·intro y0 y1 y2
   unfold laws_toAirStationS.l0
   repeat' first
   | (with_reducible exact ih0 _ _ _)
   | (with_reducible exact laws_toAirStation.mono _ _ _ _ _ _ _ _ _ _ _ _ _ _ _ _ _ _ _ _ _ _ _)
   | (with_reducible exact LeO.refl _)
   | (with_reducible exact LeO.none _)
   | (with_reducible refine LeO.ite ?_ ?_)
   | (with_reducible refine LeO.bind ?_ (fun _ => ?_))
   | exact ih0 _ _ _
   | exact laws_toAirStation.mono _ _ _ _ _ _ _ _ _ _ _ _ _ _ _ _ _ _ _ _ _ _ _
   | exact LeO.none _
   | refine LeO.ite ?_ ?_
   | refine LeO.bind ?_ (fun _ => ?_)
theorem laws_toAirStationS.mono : ∀ a0 k, LeO (laws_toAirStationS.f k a0) (laws_toAirStationS.f (k + 1) a0) := by
 intro a0 k
 have ih0 := laws_toAirStationS.mono_l k
 unfold laws_toAirStationS.f
 repeat' first
   | (with_reducible exact ih0 _ _ _)
   | (with_reducible exact laws_toAirStation.mono _ _ _ _ _ _ _ _ _ _ _ _ _ _ _ _ _ _ _ _ _ _ _)
   | (with_reducible exact LeO.refl _)
   | (with_reducible exact LeO.none _)
   | (with_reducible refine LeO.ite ?_ ?_)
   | (with_reducible refine LeO.bind ?_ (fun _ => ?_))
   | exact ih0 _ _ _
   | exact laws_toAirStation.mono _ _ _ _ _ _ _ _ _ _ _ _ _ _ _ _ _ _ _ _ _ _ _
   | exact LeO.none _
   | refine LeO.ite ?_ ?_
   | refine LeO.bind ?_ (fun _ => ?_)
set_option maxHeartbeats 8000000 in
set_option maxRecDepth 100000 in
theorem laws_toAirStationS.calls (k : Nat) (A0 : Option Addr) (c0 : Nat) (l0 : List (S136)) (r : List (S97)) (w : World) (hr0 : Kd.C k136 w A0 l0.length l0) (hc0 : l0.length ≤ c0) (h : laws_toAirStationS.f k l0 = some r) :
  Calls Try.prog 66 #[.slice A0 l0.length c0] w fun e w' => ∃ v0_ : Value, e = .returned (v0_) ∧ Kd.R k97 97 w' w.heap.size (fun _ => True) v0_ r ∧ Below w.heap.size w w' := by
 have H : (if 0 ≤ (l0.length : Int) then (if ((l0.length : Int) : Int).toNat ≤ 1099511627776 then (laws_toAirStationS.l0 k l0 (List.replicate ((l0.length : Int) : Int).toNat z97) 0) else (none)) else (none)) = some r := h
 clear h
 rw [if_pos (by omega)] at H
 by_cases c3 : ((l0.length : Int) : Int).toNat ≤ 1099511627776
 rotate_left
 ·rw [if_neg c3] at H
  cases H
 rw [if_pos c3] at H
 refine Go.Proofs.Ytlkofdedkfmaeaa.SL.enter 22 Try.func66 (h := ?_)
 have I := Go.Proofs.Ytlkofdedkfmaeaa.SL.Inv.start w
 refine Go.Proofs.Ytlkofdedkfmaeaa.SL.sg ?_
 refine Go.Proofs.Ytlkofdedkfmaeaa.SL.ev_mv (h := ?_)
 refine Go.Proofs.Ytlkofdedkfmaeaa.SL.nx ?_
 refine Go.Proofs.Ytlkofdedkfmaeaa.SL.sg ?_
 refine Go.Proofs.Ytlkofdedkfmaeaa.SL.ev_mv (h := ?_)
 refine Go.Proofs.Ytlkofdedkfmaeaa.SL.ev_len (hu := Try.underlying25) (h := ?_)
 refine Go.Proofs.Ytlkofdedkfmaeaa.SL.ev_make k97 97 I z97 (ht := Try.underlying31) (hinfo := info97) (hzero := fun w b => k97_mkM _ _ _ z97 (Kd.R_nil _ _ _ _ _) (Kd.R_nil _ _ _ _ _) (Kd.R_nil _ _ _ _ _) (Kd.R_nil _ _ _ _ _) (Kd.R_nil _ _ _ _ _)) (h0 := by omega) (hl := by omega) (h := ?_)
 intro g c w1 I
 refine Go.Proofs.Ytlkofdedkfmaeaa.SL.ev_mv (h := ?_)
 refine Go.Proofs.Ytlkofdedkfmaeaa.SL.nx ?_
 refine wp_seq ?_
 refine Go.Proofs.Ytlkofdedkfmaeaa.SL.sg ?_
 refine Go.Proofs.Ytlkofdedkfmaeaa.SL.ev_mv (h := ?_)
 refine Go.Proofs.Ytlkofdedkfmaeaa.SL.nx ?_
 simp only [Int.toNat_natCast] at I H ⊢
 refine wp_block (Go.Proofs.Ytlkofdedkfmaeaa.SL.lp (I := fun n E W => ∃ (u8 u9 u10 u11 u12 u13 u14 u15 u16 u17 u18 u19 u20 u21 : Value) (ys : List S97) (x4 : Int), E = [.slice A0 l0.length c0, undef, .slice none 0 0, .slice (some ⟨g, 0, none⟩) ys.length c, .int .i64 x4, .slice A0 l0.length c0, .int .i64 (l0.length : Int), .slice (some ⟨g, 0, none⟩) ys.length c, u8, u9, u10, u11, u12, u13, u14, u15, u16, u17, u18, u19, u20, u21, undef] ∧ ys.length = l0.length ∧ laws_toAirStationS.l0 n l0 ys x4 = some r ∧ n ≤ k ∧ Go.Proofs.Ytlkofdedkfmaeaa.SL.Inv w [Go.Proofs.Ytlkofdedkfmaeaa.SL.rr k97 97 w.heap.size (.slice (some ⟨g, 0, none⟩) ys.length c) ys] W) k ⟨_, _, _, _, _, _, _, _, _, _, _, _, _, _, List.replicate l0.length z97, 0, by simp only [List.length_replicate]; rfl, by simp, H, Nat.le_refl _, by rw [List.length_replicate]; exact I⟩ ?_)
 rintro n _ W ⟨u8, u9, u10, u11, u12, u13, u14, u15, u16, u17, u18, u19, u20, u21, ys, x4, rfl, hlen, H, hk, I⟩
 cases n with
 | zero => exact absurd H (by simp [laws_toAirStationS.l0])
 | succ k1 =>
  simp only [laws_toAirStationS.l0] at H
  refine wp_seq ?_
  refine Go.Proofs.Ytlkofdedkfmaeaa.SL.sg ?_
  refine Go.Proofs.Ytlkofdedkfmaeaa.SL.ev_mv (h := ?_)
  refine Go.Proofs.Ytlkofdedkfmaeaa.SL.ev_mv (h := ?_)
  refine Go.Proofs.Ytlkofdedkfmaeaa.SL.ev_len (hu := Try.underlying25) (h := ?_)
  refine Go.Proofs.Ytlkofdedkfmaeaa.SL.ev_bin (h := ?_)
  refine Go.Proofs.Ytlkofdedkfmaeaa.SL.nx ?_
  by_cases c6 : x4 < (l0.length : Int)
  rotate_left
  ·rw [if_neg c6] at H
   obtain rfl := Option.some.inj H
   refine Go.Proofs.Ytlkofdedkfmaeaa.SL.cnd_f c6 (h := wp_exit ?_)
   refine Go.Proofs.Ytlkofdedkfmaeaa.SL.sg ?_
   refine Go.Proofs.Ytlkofdedkfmaeaa.SL.ev_mv (h := ?_)
   refine Go.Proofs.Ytlkofdedkfmaeaa.SL.ev_mv (h := ?_)
   refine Go.Proofs.Ytlkofdedkfmaeaa.SL.nx ?_
   refine wp_ret (Go.Proofs.Ytlkofdedkfmaeaa.SL.leave1 (h := ?_))
   exact ⟨_, rfl, Go.Proofs.Ytlkofdedkfmaeaa.SL.outR I 0, I.below⟩
  rw [if_pos c6] at H
  refine Go.Proofs.Ytlkofdedkfmaeaa.SL.cnd_t c6 (h := wp_skip ?_)
  by_cases c7 : 0 ≤ x4
  rotate_left
  ·rw [if_neg c7] at H
   cases H
  rw [if_pos c7] at H
  obtain ⟨⟨t0, t1, t2, t3, t4, t5, t6, t7, t8, t9, t10, t11, t12, t13, t14, t15, t16, t17, t18, t19, t20, t21⟩, A8, H⟩ := Option.bind_eq_some_iff.mp H
  dsimp only at H
  by_cases c9 : x4 < (ys.length : Int)
  rotate_left
  ·rw [if_neg c9] at H
   cases H
  rw [if_pos c9] at H
  obtain ⟨ad, A0_, c0_, A6_, c6_, A17_, c17_, A20_, c20_, A21_, c21_, rfl, hx, l0_, i0, l6_, i6, l17_, i17, l20_, i20, l21_, i21⟩ := atL_T136 hr0 x4 c7 c6
  refine wp_seq (wp_block (wp_region_lit ?_))
  refine Go.Proofs.Ytlkofdedkfmaeaa.SL.ev_mv (h := ?_)
  refine Go.Proofs.Ytlkofdedkfmaeaa.SL.ev_mv (h := ?_)
  refine Go.Proofs.Ytlkofdedkfmaeaa.SL.ev_mv (h := ?_)
  refine Go.Proofs.Ytlkofdedkfmaeaa.SL.ev_mv (h := ?_)
  refine Go.Proofs.Ytlkofdedkfmaeaa.SL.ev_ix (hu := Try.underlying25) (sz := 22) (h0 := c7) (h1 := c6) (h := ?_)
  refine Go.Proofs.Ytlkofdedkfmaeaa.SL.ev_ldc I (hu := Try.underlying136) (hc := hx) (h := ?_)
  refine Go.Proofs.Ytlkofdedkfmaeaa.SL.ev_call I (hc := laws_toAirStation.calls k1 _ _ (rd_T136 l0 x4).f0.f0 (rd_T136 l0 x4).f0.f1 (rd_T136 l0 x4).f1 (rd_T136 l0 x4).f2.f0 (rd_T136 l0 x4).f2.f1 (rd_T136 l0 x4).f2.f2 _ _ (rd_T136 l0 x4).f2.f3 (rd_T136 l0 x4).f2.f4 (rd_T136 l0 x4).f3.f0.f0 (rd_T136 l0 x4).f3.f0.f1 (rd_T136 l0 x4).f3.f0.f2 (rd_T136 l0 x4).f3.f0.f3 (rd_T136 l0 x4).f3.f1 (rd_T136 l0 x4).f3.f2 (rd_T136 l0 x4).f3.f3 (rd_T136 l0 x4).f3.f4 (rd_T136 l0 x4).f3.f5 _ _ (rd_T136 l0 x4).f4 (rd_T136 l0 x4).f5 (rd_T136 l0 x4).f6 _ _ (rd_T136 l0 x4).f7 _ _ (rd_T136 l0 x4).f8 t0 t1 t2 t3 t4 t5 t6 t7 t8 t9 t10 t11 t12 t13 t14 t15 t16 t17 t18 t19 t20 t21 _ (Kd.C_below i0 I.below) l0_ (Kd.C_below i6 I.below) l6_ (Kd.C_below i17 I.below) l17_ (Kd.C_below i20 I.below) l20_ (Kd.C_below i21 I.below) l21_ A8) (hf := Try.func101) (h := ?_)
  rintro e W2 ⟨v0, v6, v17, v20, v21, rfl, q0, q6, q17, q20, q21, hb⟩
  obtain ⟨_, _, rfl⟩ := Kd.S_slice q0
  obtain ⟨_, _, rfl⟩ := Kd.R_slice q6
  obtain ⟨_, _, rfl⟩ := Kd.S_slice q17
  obtain ⟨_, _, rfl⟩ := Kd.R_slice q20
  obtain ⟨_, _, rfl⟩ := Kd.S_slice q21
  refine ⟨_, rfl, ?_⟩
  have I := Go.Proofs.Ytlkofdedkfmaeaa.SL.addM I hb (k97_mkM _ _ (fun _ => True) (⟨(⟨t0, t1⟩ : S85), t2, (⟨t3, t4, t5, t6, t7⟩ : S88), (⟨(⟨t8, t9, t10, t11⟩ : S90), t12, t13, t14, t15, t16⟩ : S92), t17, t18, t19, t20, t21⟩ : S97) (Kd.R_mono (Kd.S_R q0) (fun _ _ => trivial)) q6 (Kd.R_mono (Kd.S_R q17) (fun _ _ => trivial)) q20 (Kd.R_mono (Kd.S_R q21) (fun _ _ => trivial)))
  refine Go.Proofs.Ytlkofdedkfmaeaa.SL.ev_ix (hu := Try.underlying31) (sz := 22) (h0 := c7) (h1 := c9) (h := ?_)
  refine Go.Proofs.Ytlkofdedkfmaeaa.SL.ev_ste I 0 [1] (⟨(⟨t0, t1⟩ : S85), t2, (⟨t3, t4, t5, t6, t7⟩ : S88), (⟨(⟨t8, t9, t10, t11⟩ : S90), t12, t13, t14, t15, t16⟩ : S92), t17, t18, t19, t20, t21⟩ : S97) (h0 := c7) (h1 := c9) (hM := fun T hT => hT 1 _ (by simp) rfl) (h := ?_)
  intro W3 I
  refine wpList_nil ?_
  refine wp_region_lit ?_
  refine Go.Proofs.Ytlkofdedkfmaeaa.SL.ev_mv (h := ?_)
  refine Go.Proofs.Ytlkofdedkfmaeaa.SL.ev_bin (h := ?_)
  refine Go.Proofs.Ytlkofdedkfmaeaa.SL.ev_mv (h := ?_)
  refine Go.Proofs.Ytlkofdedkfmaeaa.SL.nd ?_
  refine ⟨k1, _, by omega, rfl, ?_⟩
  rw [i64_w]
  exact ⟨_, _, _, _, _, _, _, _, _, _, _, _, _, _, _, _, by simp only [List.length_set]; rfl, by rw [List.length_set, hlen], H, by omega, by rw [List.length_set]; exact Go.Proofs.Ytlkofdedkfmaeaa.SL.Inv.cut I 1⟩

/-! ### laws_toAir: function 17 -/
def laws_toAir.f (k : Nat) (l0_0 : List Int) (a0_1 : Int) (a0_2 : Int) (l0_3 : List (S136)) (a0_4 : Int) (a0_5 : Int) (a0_6 : Int) : Option (List Int × Int × Int × (List (S97)) × Int × Int × Int) := (laws_toPlacement.f k l0_0 a0_1 a0_2).bind fun bt296 => ((laws_toAirStationS.f k l0_3).bind fun t301 => (some (bt296.1, bt296.2.1, bt296.2.2, t301, a0_4, a0_5, a0_6)))
theorem laws_toAir.mono : ∀ a0 a1 a2 a3 a4 a5 a6 k, LeO (laws_toAir.f k a0 a1 a2 a3 a4 a5 a6) (laws_toAir.f (k + 1) a0 a1 a2 a3 a4 a5 a6) := by
 intro a0 a1 a2 a3 a4 a5 a6 k
 unfold laws_toAir.f
 repeat' first
   | (with_reducible exact laws_toAirStationS.mono _ _)
   | (with_reducible exact laws_toPlacement.mono _ _ _ _)
   | (with_reducible exact LeO.refl _)
   | (with_reducible exact LeO.none _)
   | (with_reducible refine LeO.ite ?_ ?_)
   | (with_reducible refine LeO.bind ?_ (fun _ => ?_))
   | exact laws_toAirStationS.mono _ _
   | exact laws_toPlacement.mono _ _ _ _
   | exact LeO.none _
   | refine LeO.ite ?_ ?_
   | refine LeO.bind ?_ (fun _ => ?_)
set_option maxHeartbeats 8000000 in
set_option maxRecDepth 100000 in
theorem laws_toAir.calls (k : Nat) (A0_0 : Option Addr) (c0_0 : Nat) (l0_0 : List Int) (a0_1 : Int) (a0_2 : Int) (A0_3 : Option Addr) (c0_3 : Nat) (l0_3 : List (S136)) (a0_4 : Int) (a0_5 : Int) (a0_6 : Int) (r1 : List Int) (r2 : Int) (r3 : Int) (r4 : List (S97)) (r5 : Int) (r6 : Int) (r7 : Int) (w : World) (hr0_0 : Kd.C (Kd.int .i64) w A0_0 l0_0.length l0_0) (hc0_0 : l0_0.length ≤ c0_0) (hr0_3 : Kd.C k136 w A0_3 l0_3.length l0_3) (hc0_3 : l0_3.length ≤ c0_3) (h : laws_toAir.f k l0_0 a0_1 a0_2 l0_3 a0_4 a0_5 a0_6 = some (r1, r2, r3, r4, r5, r6, r7)) :
  Calls Try.prog 17 #[.agg #[.slice A0_0 l0_0.length c0_0, .int .i64 a0_1, .int .i64 a0_2, .slice A0_3 l0_3.length c0_3, .int .i64 a0_4, .int .i64 a0_5, .int .i64 a0_6]] w fun e w' => ∃ v0_ v3_ : Value, e = .returned (.agg #[v0_, .int .i64 r2, .int .i64 r3, v3_, .int .i64 r5, .int .i64 r6, .int .i64 r7]) ∧ Kd.R (Kd.int .i64) 3 w' w.heap.size (fun _ => True) v0_ r1 ∧ Kd.R k97 97 w' w.heap.size (fun _ => True) v3_ r4 ∧ Below w.heap.size w w' := by
 have hu27 := Try.underlying27
 have hu33 := Try.underlying33
 have hu24 := Try.underlying24
 have hu30 := Try.underlying30
 have HR0_0 := Am_ hr0_0
 have HC0_0 := Am_ hc0_0
 clear hr0_0 hc0_0
 have HR0_3 := Am_ hr0_3
 have HC0_3 := Am_ hc0_3
 clear hr0_3 hc0_3
 have HB := Am_ (Below.refl w.heap.size w)
 have H : ((laws_toPlacement.f k l0_0 a0_1 a0_2).bind fun bt296 => ((laws_toAirStationS.f k l0_3).bind fun t301 => (some (bt296.1, bt296.2.1, bt296.2.2, t301, a0_4, a0_5, a0_6)))) = some (r1, r2, r3, r4, r5, r6, r7) := h
 clear h
 replace H := Option.bind_eq_some_iff.mp H
 obtain ⟨⟨t296, t299, t300⟩, A20, H⟩ := H
 replace H : ((laws_toAirStationS.f k l0_3).bind fun t301 => (some (t296, t299, t300, t301, a0_4, a0_5, a0_6))) = some (r1, r2, r3, r4, r5, r6, r7) := H
 have A2 := Am_ A20
 clear A20
 replace H := Option.bind_eq_some_iff.mp H
 obtain ⟨t301, A30, H⟩ := H
 replace H : (some (t296, t299, t300, t301, a0_4, a0_5, a0_6)) = some (r1, r2, r3, r4, r5, r6, r7) := H
 have A3 := Am_ A30
 clear A30
 simp only [Option.some.injEq, Prod.mk.injEq] at H
 obtain ⟨rfl, rfl, rfl, rfl, rfl, rfl, rfl⟩ := H
 go_enter Try.func17, Try.ntmps17
 go_wp2_with (first | ((with_reducible refine gate_dst (N := 1) rfl ?_); refine box_event ?hg (N := 1) ?hd (cs := #[.slice A0_0 l0_0.length c0_0, .int .i64 a0_1, .int .i64 a0_2, .slice A0_3 l0_3.length c0_3, .int .i64 a0_4, .int .i64 a0_5, .int .i64 a0_6]) (t := 27) ?hr ?_; (case hd => rfl); (case hg => rfl); (case hr => first | (go_simp; done) | (go_simp; rfl)); intro gb293 hg w4 hbox hb; have n0_ := Am_ (bT_ (by repeat (first | (with_reducible first | exact HB.1 | apply bA_ | apply bN_ | apply bD_) | exact HB.1)) hb); have n1_ := Am_ (hbox); have n2_ := Am_ ((by rw [hg]; exact (bZ_ (by repeat (first | (with_reducible first | exact HB.1 | apply bA_ | apply bN_ | apply bD_) | exact HB.1))) : w.heap.size ≤ gb293)); have n3_ := Am_ ((by rw [hg]; exact (bZ_ (by repeat (first | (with_reducible first | exact HB.1 | apply bA_ | apply bN_ | apply bD_) | exact HB.1))) : w.heap.size ≤ gb293)); clear HB; have HB := n0_; have BK293 := n1_; have GW293 := n2_; have GE293 := n3_; clear n0_ n1_ n2_ n3_ hb hbox hg) | ((with_reducible refine gate_dst (N := 2) rfl ?_); refine box_event ?hg (N := 2) ?hd (cs := #[.slice none 0 0, .int .i64 0, .int .i64 0, .slice none 0 0, .int .i64 0, .int .i64 0, .int .i64 0]) (t := 33) ?hr ?_; (case hd => rfl); (case hg => rfl); (case hr => first | (go_simp; done) | (go_simp; rfl)); intro gb294 hg w5 hbox hb; have n0_ := Am_ (kB_ (g := gb293) (by (with_reducible repeat (first | refine kN_ ?_ _ | refine kD_ ?_ | refine kA_ ?_ _)); exact BK293.1) hb); have n1_ := Am_ (bT_ (by repeat (first | (with_reducible first | exact HB.1 | apply bA_ | apply bN_ | apply bD_ | refine bS_ ?_ GE293.1) | exact HB.1)) hb); have n2_ := Am_ (hbox); have n3_ := Am_ ((by rw [hg]; exact (bZ_ (by repeat (first | (with_reducible first | exact HB.1 | apply bA_ | apply bN_ | apply bD_ | refine bS_ ?_ GE293.1) | exact HB.1))) : w.heap.size ≤ gb294)); have n4_ := Am_ ((by rw [hg]; exact (bZ_ (by repeat (first | (with_reducible first | exact HB.1 | apply bA_ | apply bN_ | apply bD_ | refine bS_ ?_ GE293.1) | exact HB.1))) : w.heap.size ≤ gb294)); have n5_ := Am_ ((by rw [hg]; exact Nat.ne_of_lt (blk_lt (g := gb293) (by (with_reducible repeat (first | refine kN_ ?_ _ | refine kD_ ?_ | refine kA_ ?_ _)); exact BK293.1)) : gb293 ≠ gb294)); have n6_ := Am_ ((by rw [hg]; exact Nat.ne_of_gt (blk_lt (g := gb293) (by (with_reducible repeat (first | refine kN_ ?_ _ | refine kD_ ?_ | refine kA_ ?_ _)); exact BK293.1)) : gb294 ≠ gb293)); clear BK293 HB; have BK293 := n0_; have HB := n1_; have BK294 := n2_; have GW294 := n3_; have GE294 := n4_; have NB293_294 := n5_; have NB294_293 := n6_; clear n0_ n1_ n2_ n3_ n4_ n5_ n6_ hb hbox hg) | ((with_reducible refine gate_dst (N := 3) rfl ?_); refine box_event ?hg (N := 3) ?hd (cs := #[.slice none 0 0, .int .i64 0, .int .i64 0, .slice none 0 0, .int .i64 0, .int .i64 0, .int .i64 0]) (t := 33) ?hr ?_; (case hd => rfl); (case hg => rfl); (case hr => first | (go_simp; done) | (go_simp; rfl)); intro gb295 hg w6 hbox hb; have n0_ := Am_ (kB_ (g := gb293) (by (with_reducible repeat (first | refine kN_ ?_ _ | refine kD_ ?_ | refine kA_ ?_ _)); exact BK293.1) hb); have n1_ := Am_ (kB_ (g := gb294) (by (with_reducible repeat (first | refine kN_ ?_ _ | refine kD_ ?_ | refine kA_ ?_ _)); exact BK294.1) hb); have n2_ := Am_ (bT_ (by repeat (first | (with_reducible first | exact HB.1 | apply bA_ | apply bN_ | apply bD_ | refine bS_ ?_ GE293.1 | refine bS_ ?_ GE294.1) | exact HB.1)) hb); have n3_ := Am_ (hbox); have n4_ := Am_ ((by rw [hg]; exact (bZ_ (by repeat (first | (with_reducible first | exact HB.1 | apply bA_ | apply bN_ | apply bD_ | refine bS_ ?_ GE293.1 | refine bS_ ?_ GE294.1) | exact HB.1))) : w.heap.size ≤ gb295)); have n5_ := Am_ ((by rw [hg]; exact (bZ_ (by repeat (first | (with_reducible first | exact HB.1 | apply bA_ | apply bN_ | apply bD_ | refine bS_ ?_ GE293.1 | refine bS_ ?_ GE294.1) | exact HB.1))) : w.heap.size ≤ gb295)); have n6_ := Am_ ((by rw [hg]; exact Nat.ne_of_lt (blk_lt (g := gb293) (by (with_reducible repeat (first | refine kN_ ?_ _ | refine kD_ ?_ | refine kA_ ?_ _)); exact BK293.1)) : gb293 ≠ gb295)); have n7_ := Am_ ((by rw [hg]; exact Nat.ne_of_gt (blk_lt (g := gb293) (by (with_reducible repeat (first | refine kN_ ?_ _ | refine kD_ ?_ | refine kA_ ?_ _)); exact BK293.1)) : gb295 ≠ gb293)); have n8_ := Am_ ((by rw [hg]; exact Nat.ne_of_lt (blk_lt (g := gb294) (by (with_reducible repeat (first | refine kN_ ?_ _ | refine kD_ ?_ | refine kA_ ?_ _)); exact BK294.1)) : gb294 ≠ gb295)); have n9_ := Am_ ((by rw [hg]; exact Nat.ne_of_gt (blk_lt (g := gb294) (by (with_reducible repeat (first | refine kN_ ?_ _ | refine kD_ ?_ | refine kA_ ?_ _)); exact BK294.1)) : gb295 ≠ gb294)); clear BK293 BK294 HB; have BK293 := n0_; have BK294 := n1_; have HB := n2_; have BK295 := n3_; have GW295 := n4_; have GE295 := n5_; have NB293_295 := n6_; have NB295_293 := n7_; have NB294_295 := n8_; have NB295_294 := n9_; clear n0_ n1_ n2_ n3_ n4_ n5_ n6_ n7_ n8_ n9_ hb hbox hg; have hnb7 := NB293_294.1; have hnc7 := NB294_293.1; have hnb8 := NB293_295.1; have hnc8 := NB295_293.1; have hcz9_0 : w6.cell? ⟨gb293, 0, none⟩ = some (.slice A0_0 l0_0.length c0_0) := kC_ BK293.1 0; have hcz9_1 : w6.cell? ⟨gb293, 1, none⟩ = some (.int .i64 a0_1) := kC_ BK293.1 1; have hcz9_2 : w6.cell? ⟨gb293, 2, none⟩ = some (.int .i64 a0_2) := kC_ BK293.1 2; have hcz9_3 : w6.cell? ⟨gb293, 3, none⟩ = some (.slice A0_3 l0_3.length c0_3) := kC_ BK293.1 3; have hcz9_4 : w6.cell? ⟨gb293, 4, none⟩ = some (.int .i64 a0_4) := kC_ BK293.1 4; have hcz9_5 : w6.cell? ⟨gb293, 5, none⟩ = some (.int .i64 a0_5) := kC_ BK293.1 5; have hcz9_6 : w6.cell? ⟨gb293, 6, none⟩ = some (.int .i64 a0_6) := kC_ BK293.1 6; have hfz9_0 := kF_ BK293.1 0; have hfz9_1 := kF_ BK293.1 1; have hfz9_2 := kF_ BK293.1 2; have hfz9_3 := kF_ BK293.1 3; have hfz9_4 := kF_ BK293.1 4; have hfz9_5 := kF_ BK293.1 5; have hfz9_6 := kF_ BK293.1 6) | ((with_reducible refine gate_callee (f := 42) rfl ?_); refine goesL_ (some 6) rfl rfl Try.func42 (by kernel_rfl) rfl #[.agg #[.slice A0_0 l0_0.length c0_0, .int .i64 a0_1, .int .i64 a0_2]] rfl (by (try simp only [List.map_toArray, List.map_cons, List.map_nil]); first | done | rfl | (simp only [List.length_drop, List.length_take]; rfl)) ?_; (with_reducible refine (laws_toPlacement.calls k _ _ l0_0 a0_1 a0_2 t296 t299 t300 _ ?side1 ?side2 A2.1).mono ?_); (case side1 => repeat (first | exact (Kd.C_below HR0_0.1 HB.1) | (with_reducible refine Kd.C_alloc ?_ _) | (with_reducible refine Kd.C_drewN ?_ _) | (with_reducible refine Kd.C_drew ?_))); (case side2 => exact HC0_0.1); rintro e w10 ⟨v297, rfl, ho0, hb⟩; refine ⟨_, rfl, ?_⟩; have n0_ := Am_ (Kd.R_lower ho0 (bZ_ (by repeat (first | (with_reducible first | exact HB.1 | apply bA_ | apply bN_ | apply bD_ | refine bS_ ?_ GE293.1 | refine bS_ ?_ GE294.1 | refine bS_ ?_ GE295.1) | exact HB.1)))); have n1_ := Am_ (kB_ (g := gb293) (by (with_reducible repeat (first | refine kN_ ?_ _ | refine kD_ ?_ | refine kA_ ?_ _)); exact BK293.1) hb); have n2_ := Am_ (kB_ (g := gb294) (by (with_reducible repeat (first | refine kN_ ?_ _ | refine kD_ ?_ | refine kA_ ?_ _)); exact BK294.1) hb); have n3_ := Am_ (kB_ (g := gb295) (by (with_reducible repeat (first | refine kN_ ?_ _ | refine kD_ ?_ | refine kA_ ?_ _)); exact BK295.1) hb); have n4_ := Am_ (bT_ (by repeat (first | (with_reducible first | exact HB.1 | apply bA_ | apply bN_ | apply bD_ | refine bS_ ?_ GE293.1 | refine bS_ ?_ GE294.1 | refine bS_ ?_ GE295.1) | exact HB.1)) hb); clear BK293 BK294 BK295 HB; have HO298 := n0_; have BK293 := n1_; have BK294 := n2_; have BK295 := n3_; have HB := n4_; clear n0_ n1_ n2_ n3_ n4_; (try clear hb); (try clear hb2); (try clear hk); (try clear hi); (try clear ho0); obtain ⟨Ao11, co11, eo11⟩ := Kd.R_slice HO298.1; subst eo11; have hnb12 := NB295_294.1; have hnc12 := NB294_295.1; have hcz13_0 : w10.cell? ⟨gb295, 0, none⟩ = some (.slice none 0 0) := kC_ BK295.1 0; have hcz13_1 : w10.cell? ⟨gb295, 1, none⟩ = some (.int .i64 0) := kC_ BK295.1 1; have hcz13_2 : w10.cell? ⟨gb295, 2, none⟩ = some (.int .i64 0) := kC_ BK295.1 2; have hcz13_3 : w10.cell? ⟨gb295, 3, none⟩ = some (.slice none 0 0) := kC_ BK295.1 3; have hcz13_4 : w10.cell? ⟨gb295, 4, none⟩ = some (.int .i64 0) := kC_ BK295.1 4; have hcz13_5 : w10.cell? ⟨gb295, 5, none⟩ = some (.int .i64 0) := kC_ BK295.1 5; have hcz13_6 : w10.cell? ⟨gb295, 6, none⟩ = some (.int .i64 0) := kC_ BK295.1 6; have hfz13_0 := kF_ BK295.1 0; have hfz13_1 := kF_ BK295.1 1; have hfz13_2 := kF_ BK295.1 2; have hfz13_3 := kF_ BK295.1 3; have hfz13_4 := kF_ BK295.1 4; have hfz13_5 := kF_ BK295.1 5; have hfz13_6 := kF_ BK295.1 6; have hcz14_0 : w10.cell? ⟨gb293, 0, none⟩ = some (.slice A0_0 l0_0.length c0_0) := kC_ BK293.1 0; have hcz14_1 : w10.cell? ⟨gb293, 1, none⟩ = some (.int .i64 a0_1) := kC_ BK293.1 1; have hcz14_2 : w10.cell? ⟨gb293, 2, none⟩ = some (.int .i64 a0_2) := kC_ BK293.1 2; have hcz14_3 : w10.cell? ⟨gb293, 3, none⟩ = some (.slice A0_3 l0_3.length c0_3) := kC_ BK293.1 3; have hcz14_4 : w10.cell? ⟨gb293, 4, none⟩ = some (.int .i64 a0_4) := kC_ BK293.1 4; have hcz14_5 : w10.cell? ⟨gb293, 5, none⟩ = some (.int .i64 a0_5) := kC_ BK293.1 5; have hcz14_6 : w10.cell? ⟨gb293, 6, none⟩ = some (.int .i64 a0_6) := kC_ BK293.1 6; have hfz14_0 := kF_ BK293.1 0; have hfz14_1 := kF_ BK293.1 1; have hfz14_2 := kF_ BK293.1 2; have hfz14_3 := kF_ BK293.1 3; have hfz14_4 := kF_ BK293.1 4; have hfz14_5 := kF_ BK293.1 5; have hfz14_6 := kF_ BK293.1 6) | ((with_reducible refine gate_callee (f := 66) rfl ?_); refine goesL_ (some 10) rfl rfl Try.func66 (by kernel_rfl) rfl #[.slice A0_3 l0_3.length c0_3] rfl (by (try simp only [List.map_toArray, List.map_cons, List.map_nil]); first | done | rfl | (simp only [List.length_drop, List.length_take]; rfl)) ?_; (with_reducible refine (laws_toAirStationS.calls k _ _ l0_3 t301 _ ?side1 ?side2 A3.1).mono ?_); (case side1 => exact Kd.C_below HR0_3.1 (by repeat (first | (with_reducible first | exact HB.1 | apply bA_ | apply bN_ | apply bD_ | refine bS_ ?_ GE293.1 | refine bS_ ?_ GE294.1 | refine bS_ ?_ GE295.1) | exact HB.1))); (case side2 => exact HC0_3.1); rintro e w15 ⟨v302, rfl, ho0, hb⟩; refine ⟨_, rfl, ?_⟩; have n0_ := Am_ (Kd.R_below (by (with_reducible repeat (first | apply rA_ | apply rN_ | apply rD_)); exact (Kd.R_mono (rF_ (p := ⟨gb295, 2, none⟩) (rF_ (p := ⟨gb295, 1, none⟩) (rF_ (p := ⟨gb295, 0, none⟩) (Kd.R_types HO298.1 BK295.1 (by decide)) (fun _ hk => hk.2) (.slice Ao11 t296.length co11)) (fun _ hk => hk.2) (.int .i64 t299)) (fun _ hk => hk.2) (.int .i64 t300)) (fun _ h_ => h_.1))) hb); have n1_ := Am_ (Kd.R_lower ho0 (bZ_ (by repeat (first | (with_reducible first | exact HB.1 | apply bA_ | apply bN_ | apply bD_ | refine bS_ ?_ GE293.1 | refine bS_ ?_ GE294.1 | refine bS_ ?_ GE295.1) | exact HB.1)))); have n2_ := Am_ (kB_ (g := gb293) (o := .cells #[.slice A0_0 l0_0.length c0_0, .int .i64 a0_1, .int .i64 a0_2, .slice A0_3 l0_3.length c0_3, .int .i64 a0_4, .int .i64 a0_5, .int .i64 a0_6] 27 (0, 0)) (by (with_reducible repeat (first | refine kN_ ?_ _ | refine kD_ ?_ | refine kA_ ?_ _)); refine blk_far ?_ NB293_295.1 _; (with_reducible repeat (first | refine kN_ ?_ _ | refine kD_ ?_ | refine kA_ ?_ _)); refine blk_far ?_ NB293_295.1 _; (with_reducible repeat (first | refine kN_ ?_ _ | refine kD_ ?_ | refine kA_ ?_ _)); refine blk_far ?_ NB293_295.1 _; (with_reducible repeat (first | refine kN_ ?_ _ | refine kD_ ?_ | refine kA_ ?_ _)); exact BK293.1) hb); have n3_ := Am_ (kB_ (g := gb294) (o := .cells #[.slice none 0 0, .int .i64 0, .int .i64 0, .slice none 0 0, .int .i64 0, .int .i64 0, .int .i64 0] 33 (0, 0)) (by (with_reducible repeat (first | refine kN_ ?_ _ | refine kD_ ?_ | refine kA_ ?_ _)); refine blk_far ?_ NB294_295.1 _; (with_reducible repeat (first | refine kN_ ?_ _ | refine kD_ ?_ | refine kA_ ?_ _)); refine blk_far ?_ NB294_295.1 _; (with_reducible repeat (first | refine kN_ ?_ _ | refine kD_ ?_ | refine kA_ ?_ _)); refine blk_far ?_ NB294_295.1 _; (with_reducible repeat (first | refine kN_ ?_ _ | refine kD_ ?_ | refine kA_ ?_ _)); exact BK294.1) hb); have n4_ := Am_ (kB_ (g := gb295) (o := .cells #[.slice Ao11 t296.length co11, .int .i64 t299, .int .i64 t300, .slice none 0 0, .int .i64 0, .int .i64 0, .int .i64 0] 33 (0, 0)) (by (with_reducible repeat (first | refine kN_ ?_ _ | refine kD_ ?_ | refine kA_ ?_ _)); refine blk_put (cs := #[.slice Ao11 t296.length co11, .int .i64 t299, .int .i64 0, .slice none 0 0, .int .i64 0, .int .i64 0, .int .i64 0]) ?_ 2 _ rfl; (with_reducible repeat (first | refine kN_ ?_ _ | refine kD_ ?_ | refine kA_ ?_ _)); refine blk_put (cs := #[.slice Ao11 t296.length co11, .int .i64 0, .int .i64 0, .slice none 0 0, .int .i64 0, .int .i64 0, .int .i64 0]) ?_ 1 _ rfl; (with_reducible repeat (first | refine kN_ ?_ _ | refine kD_ ?_ | refine kA_ ?_ _)); refine blk_put (cs := #[.slice none 0 0, .int .i64 0, .int .i64 0, .slice none 0 0, .int .i64 0, .int .i64 0, .int .i64 0]) ?_ 0 _ rfl; (with_reducible repeat (first | refine kN_ ?_ _ | refine kD_ ?_ | refine kA_ ?_ _)); exact BK295.1) hb); have n5_ := Am_ (bT_ (by repeat (first | (with_reducible first | exact HB.1 | apply bA_ | apply bN_ | apply bD_ | refine bS_ ?_ GE293.1 | refine bS_ ?_ GE294.1 | refine bS_ ?_ GE295.1) | exact HB.1)) hb); clear HO298 BK293 BK294 BK295 HB; have HO298 := n0_; have HO303 := n1_; have BK293 := n2_; have BK294 := n3_; have BK295 := n4_; have HB := n5_; clear n0_ n1_ n2_ n3_ n4_ n5_; (try clear hb); (try clear hb2); (try clear hk); (try clear hi); (try clear ho0); obtain ⟨Ao16, co16, eo16⟩ := Kd.R_slice HO303.1; subst eo16; have hcz17_0 : w15.cell? ⟨gb295, 0, none⟩ = some (.slice Ao11 t296.length co11) := kC_ BK295.1 0; have hcz17_1 : w15.cell? ⟨gb295, 1, none⟩ = some (.int .i64 t299) := kC_ BK295.1 1; have hcz17_2 : w15.cell? ⟨gb295, 2, none⟩ = some (.int .i64 t300) := kC_ BK295.1 2; have hcz17_3 : w15.cell? ⟨gb295, 3, none⟩ = some (.slice none 0 0) := kC_ BK295.1 3; have hcz17_4 : w15.cell? ⟨gb295, 4, none⟩ = some (.int .i64 0) := kC_ BK295.1 4; have hcz17_5 : w15.cell? ⟨gb295, 5, none⟩ = some (.int .i64 0) := kC_ BK295.1 5; have hcz17_6 : w15.cell? ⟨gb295, 6, none⟩ = some (.int .i64 0) := kC_ BK295.1 6; have hfz17_0 := kF_ BK295.1 0; have hfz17_1 := kF_ BK295.1 1; have hfz17_2 := kF_ BK295.1 2; have hfz17_3 := kF_ BK295.1 3; have hfz17_4 := kF_ BK295.1 4; have hfz17_5 := kF_ BK295.1 5; have hfz17_6 := kF_ BK295.1 6; have hcz18_0 : w15.cell? ⟨gb293, 0, none⟩ = some (.slice A0_0 l0_0.length c0_0) := kC_ BK293.1 0; have hcz18_1 : w15.cell? ⟨gb293, 1, none⟩ = some (.int .i64 a0_1) := kC_ BK293.1 1; have hcz18_2 : w15.cell? ⟨gb293, 2, none⟩ = some (.int .i64 a0_2) := kC_ BK293.1 2; have hcz18_3 : w15.cell? ⟨gb293, 3, none⟩ = some (.slice A0_3 l0_3.length c0_3) := kC_ BK293.1 3; have hcz18_4 : w15.cell? ⟨gb293, 4, none⟩ = some (.int .i64 a0_4) := kC_ BK293.1 4; have hcz18_5 : w15.cell? ⟨gb293, 5, none⟩ = some (.int .i64 a0_5) := kC_ BK293.1 5; have hcz18_6 : w15.cell? ⟨gb293, 6, none⟩ = some (.int .i64 a0_6) := kC_ BK293.1 6; have hfz18_0 := kF_ BK293.1 0; have hfz18_1 := kF_ BK293.1 1; have hfz18_2 := kF_ BK293.1 2; have hfz18_3 := kF_ BK293.1 3; have hfz18_4 := kF_ BK293.1 4; have hfz18_5 := kF_ BK293.1 5; have hfz18_6 := kF_ BK293.1 6; have hcz19_0 : w15.cell? ⟨gb294, 0, none⟩ = some (.slice none 0 0) := kC_ BK294.1 0; have hcz19_1 : w15.cell? ⟨gb294, 1, none⟩ = some (.int .i64 0) := kC_ BK294.1 1; have hcz19_2 : w15.cell? ⟨gb294, 2, none⟩ = some (.int .i64 0) := kC_ BK294.1 2; have hcz19_3 : w15.cell? ⟨gb294, 3, none⟩ = some (.slice none 0 0) := kC_ BK294.1 3; have hcz19_4 : w15.cell? ⟨gb294, 4, none⟩ = some (.int .i64 0) := kC_ BK294.1 4; have hcz19_5 : w15.cell? ⟨gb294, 5, none⟩ = some (.int .i64 0) := kC_ BK294.1 5; have hcz19_6 : w15.cell? ⟨gb294, 6, none⟩ = some (.int .i64 0) := kC_ BK294.1 6; have hfz19_0 := kF_ BK294.1 0; have hfz19_1 := kF_ BK294.1 1; have hfz19_2 := kF_ BK294.1 2; have hfz19_3 := kF_ BK294.1 3; have hfz19_4 := kF_ BK294.1 4; have hfz19_5 := kF_ BK294.1 5; have hfz19_6 := kF_ BK294.1 6))
 refine bodyPost_ret (results_cell_row rfl _ _ gb294 33 #[.slice Ao11 t296.length co11, .int .i64 t299, .int .i64 t300, .slice Ao16 t301.length co16, .int .i64 a0_4, .int .i64 a0_5, .int .i64 a0_6] (0, 0) _ rfl (by (with_reducible repeat (first | refine kN_ ?_ _ | refine kD_ ?_ | refine kA_ ?_ _)); refine blk_put (cs := #[.slice Ao11 t296.length co11, .int .i64 t299, .int .i64 t300, .slice Ao16 t301.length co16, .int .i64 a0_4, .int .i64 a0_5, .int .i64 0]) ?_ 6 _ rfl; (with_reducible repeat (first | refine kN_ ?_ _ | refine kD_ ?_ | refine kA_ ?_ _)); refine blk_put (cs := #[.slice Ao11 t296.length co11, .int .i64 t299, .int .i64 t300, .slice Ao16 t301.length co16, .int .i64 a0_4, .int .i64 0, .int .i64 0]) ?_ 5 _ rfl; (with_reducible repeat (first | refine kN_ ?_ _ | refine kD_ ?_ | refine kA_ ?_ _)); refine blk_put (cs := #[.slice Ao11 t296.length co11, .int .i64 t299, .int .i64 t300, .slice Ao16 t301.length co16, .int .i64 0, .int .i64 0, .int .i64 0]) ?_ 4 _ rfl; (with_reducible repeat (first | refine kN_ ?_ _ | refine kD_ ?_ | refine kA_ ?_ _)); refine blk_put (cs := #[.slice Ao11 t296.length co11, .int .i64 t299, .int .i64 t300, .slice none 0 0, .int .i64 0, .int .i64 0, .int .i64 0]) ?_ 3 _ rfl; (with_reducible repeat (first | refine kN_ ?_ _ | refine kD_ ?_ | refine kA_ ?_ _)); refine blk_put (cs := #[.slice Ao11 t296.length co11, .int .i64 t299, .int .i64 0, .slice none 0 0, .int .i64 0, .int .i64 0, .int .i64 0]) ?_ 2 _ rfl; (with_reducible repeat (first | refine kN_ ?_ _ | refine kD_ ?_ | refine kA_ ?_ _)); refine blk_put (cs := #[.slice Ao11 t296.length co11, .int .i64 0, .int .i64 0, .slice none 0 0, .int .i64 0, .int .i64 0, .int .i64 0]) ?_ 1 _ rfl; (with_reducible repeat (first | refine kN_ ?_ _ | refine kD_ ?_ | refine kA_ ?_ _)); refine blk_put (cs := #[.slice none 0 0, .int .i64 0, .int .i64 0, .slice none 0 0, .int .i64 0, .int .i64 0, .int .i64 0]) ?_ 0 _ rfl; (with_reducible repeat (first | refine kN_ ?_ _ | refine kD_ ?_ | refine kA_ ?_ _)); refine blk_far ?_ NB294_295.1 _; (with_reducible repeat (first | refine kN_ ?_ _ | refine kD_ ?_ | refine kA_ ?_ _)); refine blk_far ?_ NB294_295.1 _; (with_reducible repeat (first | refine kN_ ?_ _ | refine kD_ ?_ | refine kA_ ?_ _)); refine blk_far ?_ NB294_295.1 _; (with_reducible repeat (first | refine kN_ ?_ _ | refine kD_ ?_ | refine kA_ ?_ _)); refine blk_far ?_ NB294_295.1 _; (with_reducible repeat (first | refine kN_ ?_ _ | refine kD_ ?_ | refine kA_ ?_ _)); exact BK294.1) Try.underlying33 rfl (by kernel_rfl)) rfl ?_
 exact ⟨_, _, by first | rfl | (simp [errW_none, errW_some] <;> rfl) | (simp [*, errW_none, errW_some] <;> rfl), by (with_reducible repeat (first | apply rA_ | apply rN_ | apply rD_)); exact Kd.R_mono (rF_ (p := ⟨gb294, 6, none⟩) (rF_ (p := ⟨gb294, 5, none⟩) (rF_ (p := ⟨gb294, 4, none⟩) (rF_ (p := ⟨gb294, 3, none⟩) (rF_ (p := ⟨gb294, 2, none⟩) (rF_ (p := ⟨gb294, 1, none⟩) (rF_ (p := ⟨gb294, 0, none⟩) (rF_ (p := ⟨gb295, 6, none⟩) (rF_ (p := ⟨gb295, 5, none⟩) (rF_ (p := ⟨gb295, 4, none⟩) (rF_ (p := ⟨gb295, 3, none⟩) (Kd.R_types (Kd.R_types HO298.1 BK295.1 (by decide)) BK294.1 (by decide)) (fun _ hk => hk.1.2) (.slice Ao16 t301.length co16)) (fun _ hk => hk.1.2) (.int .i64 a0_4)) (fun _ hk => hk.1.2) (.int .i64 a0_5)) (fun _ hk => hk.1.2) (.int .i64 a0_6)) (fun _ hk => hk.2) (.slice Ao11 t296.length co11)) (fun _ hk => hk.2) (.int .i64 t299)) (fun _ hk => hk.2) (.int .i64 t300)) (fun _ hk => hk.2) (.slice Ao16 t301.length co16)) (fun _ hk => hk.2) (.int .i64 a0_4)) (fun _ hk => hk.2) (.int .i64 a0_5)) (fun _ hk => hk.2) (.int .i64 a0_6)) (fun _ hk => trivial), by (with_reducible repeat (first | apply rA_ | apply rN_ | apply rD_)); exact Kd.R_mono (rF_ (p := ⟨gb294, 6, none⟩) (rF_ (p := ⟨gb294, 5, none⟩) (rF_ (p := ⟨gb294, 4, none⟩) (rF_ (p := ⟨gb294, 3, none⟩) (rF_ (p := ⟨gb294, 2, none⟩) (rF_ (p := ⟨gb294, 1, none⟩) (rF_ (p := ⟨gb294, 0, none⟩) (rF_ (p := ⟨gb295, 6, none⟩) (rF_ (p := ⟨gb295, 5, none⟩) (rF_ (p := ⟨gb295, 4, none⟩) (rF_ (p := ⟨gb295, 3, none⟩) (Kd.R_types (Kd.R_types HO303.1 BK295.1 (by decide)) BK294.1 (by decide)) (fun _ hk => hk.1.2) (.slice Ao16 t301.length co16)) (fun _ hk => hk.1.2) (.int .i64 a0_4)) (fun _ hk => hk.1.2) (.int .i64 a0_5)) (fun _ hk => hk.1.2) (.int .i64 a0_6)) (fun _ hk => hk.2) (.slice Ao11 t296.length co11)) (fun _ hk => hk.2) (.int .i64 t299)) (fun _ hk => hk.2) (.int .i64 t300)) (fun _ hk => hk.2) (.slice Ao16 t301.length co16)) (fun _ hk => hk.2) (.int .i64 a0_4)) (fun _ hk => hk.2) (.int .i64 a0_5)) (fun _ hk => hk.2) (.int .i64 a0_6)) (fun _ hk => trivial), by repeat (first | (with_reducible first | exact HB.1 | apply bA_ | apply bN_ | apply bD_ | refine bS_ ?_ GE293.1 | refine bS_ ?_ GE294.1 | refine bS_ ?_ GE295.1) | exact HB.1)⟩

end Go.Proofs.Ytlkofdedkfmaeaa.XFnExactDeliveredOnce
