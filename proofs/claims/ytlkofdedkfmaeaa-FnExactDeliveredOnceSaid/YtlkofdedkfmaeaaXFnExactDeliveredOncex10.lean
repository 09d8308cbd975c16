/- The functions that the law reaches as plain Lean functions, and of each a proof that its call computes it. Conditions: those that each theorem names. -/
import Derived.Test.YtlkofdedkfmaeaaSE
import Derived.Test.YtlkofdedkfmaeaaWS
import Derived.Test.YtlkofdedkfmaeaaWB
import Derived.Test.YtlkofdedkfmaeaaXFnExactDeliveredOncex0
namespace Go.Proofs.Ytlkofdedkfmaeaa.XFnExactDeliveredOnce
open Go.RowKit Go.Proofs.YtlkofdedkfmaeaaW.PrintWords Go.Proofs.YtlkofdedkfmaeaaW.PrintLast Go.Proofs.YtlkofdedkfmaeaaW.PrintMore Go.Proofs.Ytlkofdedkfmaeaa.X
attribute [local go_sem] max2_int min2_int max_two min_two max_three min_three max_four min_four   -- for this text's walks alone
set_option linter.unusedVariables false
set_option linter.unusedSimpArgs false

/-! ### impl_DeliveredOnce: function 21 -/
mutual
def impl_DeliveredOnce.l0 : Nat → List (S97) → Int → Int → Option (Bool)
 | 0, _, _, _ => none
 | k + 1, x10, x11, x12 => if x12 < x11 then (if 0 ≤ x12 then (if x12 < (x10.length : Int) then (impl_DeliveredOnce.l1 k x10 x11 x12 ((rd_T97 x10 x12).f8) (((rd_T97 x10 x12).f8).length : Int) 0 ((rd_T97 x10 x12).f0.f0) ((rd_T97 x10 x12).f0.f1) ((rd_T97 x10 x12).f1) ((rd_T97 x10 x12).f2.f0) ((rd_T97 x10 x12).f2.f1) ((rd_T97 x10 x12).f2.f2) ((rd_T97 x10 x12).f2.f3) ((rd_T97 x10 x12).f2.f4) ((rd_T97 x10 x12).f3.f0.f0) ((rd_T97 x10 x12).f3.f0.f1) ((rd_T97 x10 x12).f3.f0.f2) ((rd_T97 x10 x12).f3.f0.f3) ((rd_T97 x10 x12).f3.f1) ((rd_T97 x10 x12).f3.f2) ((rd_T97 x10 x12).f3.f3) ((rd_T97 x10 x12).f3.f4) ((rd_T97 x10 x12).f3.f5) ((rd_T97 x10 x12).f4) ((rd_T97 x10 x12).f5) ((rd_T97 x10 x12).f6) ((rd_T97 x10 x12).f7) ((rd_T97 x10 x12).f8)) else (none)) else (none)) else (some true)
def impl_DeliveredOnce.l1 : Nat → List (S97) → Int → Int → List (S102) → Int → Int → List (S173) → Int → Bool → Int → Int → Int → List Int → Bool → Int → Int → Int → Int → Int → Int → Int → Int → Int → List (S88) → Int → Int → List (S141) → List (S102) → Option (Bool)
 | 0, _, _, _, _, _, _, _, _, _, _, _, _, _, _, _, _, _, _, _, _, _, _, _, _, _, _, _, _ => none
 | k + 1, x10, x11, x12, x17, x18, x19, x366000, x366001, x366002, x366003, x366004, x366005, x366006, x366007, x366008, x366009, x366010, x366011, x366012, x366013, x366014, x366015, x366016, x366017, x366018, x366019, x366020, x366021 => if x19 < x18 then (if 0 ≤ x19 then (if x19 < (x17.length : Int) then (if x19 ≤ (x366021.length : Int) then ((some (x366021.take (x19 : Int).toNat : List (S102))).bind fun y368 => (impl_DeliveredOnce.l2 k x10 x11 x12 x17 x18 x19 y368 (y368.length : Int) 0 x366000 x366001 x366002 x366003 x366004 x366005 x366006 x366007 x366008 x366009 x366010 x366011 x366012 x366013 x366014 x366015 x366016 x366017 x366018 x366019 x366020 x366021 ((rd_T102 x17 x19).f0) ((rd_T102 x17 x19).f1) ((rd_T102 x17 x19).f2) ((rd_T102 x17 x19).f3))) else (none)) else (none)) else (none)) else (impl_DeliveredOnce.l0 k x10 x11 (wrap64 (x12 + 1)))
def impl_DeliveredOnce.l2 : Nat → List (S97) → Int → Int → List (S102) → Int → Int → List (S102) → Int → Int → List (S173) → Int → Bool → Int → Int → Int → List Int → Bool → Int → Int → Int → Int → Int → Int → Int → Int → Int → List (S88) → Int → Int → List (S141) → List (S102) → Int → Int → Int → List Int → Option (Bool)
 | 0, _, _, _, _, _, _, _, _, _, _, _, _, _, _, _, _, _, _, _, _, _, _, _, _, _, _, _, _, _, _, _, _, _, _, _ => none
 | k + 1, x10, x11, x12, x17, x18, x19, x27, x28, x29, x366000, x366001, x366002, x366003, x366004, x366005, x366006, x366007, x366008, x366009, x366010, x366011, x366012, x366013, x366014, x366015, x366016, x366017, x366018, x366019, x366020, x366021, x368000, x368001, x368002, x368003 => if x29 < x28 then (if 0 ≤ x29 then (if x29 < (x27.length : Int) then (if x368000 = ((rd_T102 x27 x29).f0) then (if x368002 = ((rd_T102 x27 x29).f2) then (some false) else (impl_DeliveredOnce.l2 k x10 x11 x12 x17 x18 x19 x27 x28 (wrap64 (x29 + 1)) x366000 x366001 x366002 x366003 x366004 x366005 x366006 x366007 x366008 x366009 x366010 x366011 x366012 x366013 x366014 x366015 x366016 x366017 x366018 x366019 x366020 x366021 x368000 x368001 x368002 x368003)) else (impl_DeliveredOnce.l2 k x10 x11 x12 x17 x18 x19 x27 x28 (wrap64 (x29 + 1)) x366000 x366001 x366002 x366003 x366004 x366005 x366006 x366007 x366008 x366009 x366010 x366011 x366012 x366013 x366014 x366015 x366016 x366017 x366018 x366019 x366020 x366021 x368000 x368001 x368002 x368003)) else (none)) else (none)) else (impl_DeliveredOnce.l1 k x10 x11 x12 x17 x18 (wrap64 (x19 + 1)) x366000 x366001 x366002 x366003 x366004 x366005 x366006 x366007 x366008 x366009 x366010 x366011 x366012 x366013 x366014 x366015 x366016 x366017 x366018 x366019 x366020 x366021)
end
def impl_DeliveredOnce.f (k : Nat) (l0_0 : List Int) (a0_1 : Int) (a0_2 : Int) (l0_3 : List (S97)) (a0_4 : Int) (a0_5 : Int) (a0_6 : Int) : Option (Bool) := impl_DeliveredOnce.l0 k l0_3 (l0_3.length : Int) 0
theorem impl_DeliveredOnce.mono_l : ∀ k, (∀ y0 y1 y2, LeO (impl_DeliveredOnce.l0 k y0 y1 y2) (impl_DeliveredOnce.l0 (k + 1) y0 y1 y2)) ∧ (∀ y0 y1 y2 y3 y4 y5 y6 y7 y8 y9 y10 y11 y12 y13 y14 y15 y16 y17 y18 y19 y20 y21 y22 y23 y24 y25 y26 y27, LeO (impl_DeliveredOnce.l1 k y0 y1 y2 y3 y4 y5 y6 y7 y8 y9 y10 y11 y12 y13 y14 y15 y16 y17 y18 y19 y20 y21 y22 y23 y24 y25 y26 y27) (impl_DeliveredOnce.l1 (k + 1) y0 y1 y2 y3 y4 y5 y6 y7 y8 y9 y10 y11 y12 y13 y14 y15 y16 y17 y18 y19 y20 y21 y22 y23 y24 y25 y26 y27)) ∧ (∀ y0 y1 y2 y3 y4 y5 y6 y7 y8 y9 y10 y11 y12 y13 y14 y15 y16 y17 y18 y19 y20 y21 y22 y23 y24 y25 y26 y27 y28 y29 y30 y31 y32 y33 y34, LeO (impl_DeliveredOnce.l2 k y0 y1 y2 y3 y4 y5 y6 y7 y8 y9 y10 y11 y12 y13 y14 y15 y16 y17 y18 y19 y20 y21 y22 y23 y24 y25 y26 y27 y28 y29 y30 y31 y32 y33 y34) (impl_DeliveredOnce.l2 (k + 1) y0 y1 y2 y3 y4 y5 y6 y7 y8 y9 y10 y11 y12 y13 y14 y15 y16 y17 y18 y19 y20 y21 y22 y23 y24 y25 y26 y27 y28 y29 y30 y31 y32 y33 y34))
 | 0 => ⟨fun _ _ _ r h => by simp [impl_DeliveredOnce.l0] at h, fun _ _ _ _ _ _ _ _ _ _ _ _ _ _ _ _ _ _ _ _ _ _ _ _ _ _ _ _ r h => by simp [impl_DeliveredOnce.l1] at h, fun _ _ _ _ _ _ _ _ _ _ _ _ _ _ _ _ _ _ _ _ _ _ _ _ _ _ _ _ _ _ _ _ _ _ _ r h => by simp [impl_DeliveredOnce.l2] at h⟩
 | k + 1 => by
  obtain ⟨ih0, ih1, ih2⟩ := impl_DeliveredOnce.mono_l k
  refine ⟨?_, ?_, ?_⟩
  ·intro y0 y1 y2
   unfold impl_DeliveredOnce.l0
   repeat' first
   | (with_reducible exact ih0 _ _ _)
   | (with_reducible exact ih1 _ _ _ _ _ _ _ _ _ _ _ _ _ _ _ _ _ _ _ _ _ _ _ _ _ _ _ _)
   | (with_reducible exact ih2 _ _ _ _ _ _ _ _ _ _ _ _ _ _ _ _ _ _ _ _ _ _ _ _ _ _ _ _ _ _ _ _ _ _ _)
   | (with_reducible exact LeO.refl _)
   | (with_reducible exact LeO.none _)
   | (with_reducible refine LeO.ite ?_ ?_)
   | (with_reducible refine LeO.bind ?_ (fun _ => ?_))
   | exact ih0 _ _ _
   | exact ih1 _ _ _ _ _ _ _ _ _ _ _ _ _ _ _ _ _ _ _ _ _ _ _ _ _ _ _ _
   | exact ih2 _ _ _ _ _ _ _ _ _ _ _ _ _ _ _ _ _ _ _ _ _ _ _ _ _ _ _ _ _ _ _ _ _ _ _
   | exact LeO.none _
   | refine LeO.ite ?_ ?_
   | refine LeO.bind ?_ (fun _ => ?_)
  ·intro y0 y1 y2 y3 y4 y5 y6 y7 y8 y9 y10 y11 y12 y13 y14 y15 y16 y17 y18 y19 y20 y21 y22 y23 y24 y25 y26 y27
   unfold impl_DeliveredOnce.l1
   repeat' first
   | (with_reducible exact ih0 _ _ _)
   | (with_reducible exact ih1 _ _ _ _ _ _ _ _ _ _ _ _ _ _ _ _ _ _ _ _ _ _ _ _ _ _ _ _)
   | (with_reducible exact ih2 _ _ _ _ _ _ _ _ _ _ _ _ _ _ _ _ _ _ _ _ _ _ _ _ _ _ _ _ _ _ _ _ _ _ _)
   | (with_reducible exact LeO.refl _)
   | (with_reducible exact LeO.none _)
   | (with_reducible refine LeO.ite ?_ ?_)
   | (with_reducible refine LeO.bind ?_ (fun _ => ?_))
   | exact ih0 _ _ _
   | exact ih1 _ _ _ _ _ _ _ _ _ _ _ _ _ _ _ _ _ _ _ _ _ _ _ _ _ _ _ _
   | exact ih2 _ _ _ _ _ _ _ _ _ _ _ _ _ _ _ _ _ _ _ _ _ _ _ _ _ _ _ _ _ _ _ _ _ _ _
   | exact LeO.none _
   | refine LeO.ite ?_ ?_
   | refine LeO.bind ?_ (fun _ => ?_)
  ·intro y0 y1 y2 y3 y4 y5 y6 y7 y8 y9 y10 y11 y12 y13 y14 y15 y16 y17 y18 y19 y20 y21 y22 y23 y24 y25 y26 y27 y28 y29 y30 y31 y32 y33 y34
   unfold impl_DeliveredOnce.l2
   repeat' first
   | (with_reducible exact ih0 _ _ _)
   | (with_reducible exact ih1 _ _ _ _ _ _ _ _ _ _ _ _ _ _ _ _ _ _ _ _ _ _ _ _ _ _ _ _)
   | (with_reducible exact ih2 _ _ _ _ _ _ _ _ _ _ _ _ _ _ _ _ _ _ _ _ _ _ _ _ _ _ _ _ _ _ _ _ _ _ _)
   | (with_reducible exact LeO.refl _)
   | (with_reducible exact LeO.none _)
   | (with_reducible refine LeO.ite ?_ ?_)
   | (with_reducible refine LeO.bind ?_ (fun _ => ?_))
   | exact ih0 _ _ _
   | exact ih1 _ _ _ _ _ _ _ _ _ _ _ _ _ _ _ _ _ _ _ _ _ _ _ _ _ _ _ _
   | exact ih2 _ _ _ _ _ _ _ _ _ _ _ _ _ _ _ _ _ _ _ _ _ _ _ _ _ _ _ _ _ _ _ _ _ _ _
   | exact LeO.none _
   | refine LeO.ite ?_ ?_
   | refine LeO.bind ?_ (fun _ => ?_)
theorem impl_DeliveredOnce.mono : ∀ a0 a1 a2 a3 a4 a5 a6 k, LeO (impl_DeliveredOnce.f k a0 a1 a2 a3 a4 a5 a6) (impl_DeliveredOnce.f (k + 1) a0 a1 a2 a3 a4 a5 a6) := by
 intro a0 a1 a2 a3 a4 a5 a6 k
 obtain ⟨ih0, ih1, ih2⟩ := impl_DeliveredOnce.mono_l k
 unfold impl_DeliveredOnce.f
 repeat' first
   | (with_reducible exact ih0 _ _ _)
   | (with_reducible exact ih1 _ _ _ _ _ _ _ _ _ _ _ _ _ _ _ _ _ _ _ _ _ _ _ _ _ _ _ _)
   | (with_reducible exact ih2 _ _ _ _ _ _ _ _ _ _ _ _ _ _ _ _ _ _ _ _ _ _ _ _ _ _ _ _ _ _ _ _ _ _ _)
   | (with_reducible exact LeO.refl _)
   | (with_reducible exact LeO.none _)
   | (with_reducible refine LeO.ite ?_ ?_)
   | (with_reducible refine LeO.bind ?_ (fun _ => ?_))
   | exact ih0 _ _ _
   | exact ih1 _ _ _ _ _ _ _ _ _ _ _ _ _ _ _ _ _ _ _ _ _ _ _ _ _ _ _ _
   | exact ih2 _ _ _ _ _ _ _ _ _ _ _ _ _ _ _ _ _ _ _ _ _ _ _ _ _ _ _ _ _ _ _ _ _ _ _
   | exact LeO.none _
   | refine LeO.ite ?_ ?_
   | refine LeO.bind ?_ (fun _ => ?_)
set_option maxHeartbeats 8000000 in
set_option maxRecDepth 100000 in
theorem impl_DeliveredOnce.calls (k : Nat) (A0_0 : Option Addr) (c0_0 : Nat) (l0_0 : List Int) (a0_1 : Int) (a0_2 : Int) (A0_3 : Option Addr) (c0_3 : Nat) (l0_3 : List (S97)) (a0_4 : Int) (a0_5 : Int) (a0_6 : Int) (r : Bool) (w : World) (hr0_0 : Kd.C (Kd.int .i64) w A0_0 l0_0.length l0_0) (hc0_0 : l0_0.length ≤ c0_0) (hr0_3 : Kd.C k97 w A0_3 l0_3.length l0_3) (hc0_3 : l0_3.length ≤ c0_3) (h : impl_DeliveredOnce.f k l0_0 a0_1 a0_2 l0_3 a0_4 a0_5 a0_6 = some r) :
  Calls Try.prog 21 #[.agg #[.slice A0_0 l0_0.length c0_0, .int .i64 a0_1, .int .i64 a0_2, .slice A0_3 l0_3.length c0_3, .int .i64 a0_4, .int .i64 a0_5, .int .i64 a0_6]] w fun e w' => e = .returned (.bool r) ∧ Below w.heap.size w w' := by
 have H : impl_DeliveredOnce.l0 k l0_3 (l0_3.length : Int) 0 = some r := h
 refine Go.Proofs.Ytlkofdedkfmaeaa.SE.go (l := [_]) 48 Try.func21 ?_
 refine Go.Proofs.Ytlkofdedkfmaeaa.SE.sq ?_
 refine Go.Proofs.Ytlkofdedkfmaeaa.SE.rg ?_
 refine Go.Proofs.Ytlkofdedkfmaeaa.SE.nb (h := ?_); intro g1
 refine Go.Proofs.Ytlkofdedkfmaeaa.SE.mv (h := ?_)
 refine Go.Proofs.Ytlkofdedkfmaeaa.SE.nx (h := ?_)
 refine Go.Proofs.Ytlkofdedkfmaeaa.SE.sq ?_
 refine Go.Proofs.Ytlkofdedkfmaeaa.SE.sq ?_
 refine Go.Proofs.Ytlkofdedkfmaeaa.SE.rg ?_
 refine Go.Proofs.Ytlkofdedkfmaeaa.SE.fld 3 (hu := Try.underlying33) (h := ?_)
 refine Go.Proofs.Ytlkofdedkfmaeaa.SE.ld 0 (hu := Try.underlying31) (h := ?_)
 refine Go.Proofs.Ytlkofdedkfmaeaa.SE.len (hu := Try.underlying31) (h := ?_)
 refine Go.Proofs.Ytlkofdedkfmaeaa.SE.mv (h := ?_)
 refine Go.Proofs.Ytlkofdedkfmaeaa.SE.nx (h := ?_)
 refine Go.Proofs.Ytlkofdedkfmaeaa.SE.bl ?_
 refine Go.Proofs.Ytlkofdedkfmaeaa.SE.lp (σ := Int) (fun x12 m => impl_DeliveredOnce.l0 m l0_3 (l0_3.length : Int) x12 = some r) (fun x12 => [(1, .pointer (some ⟨g1, 0, none⟩)), (10, .slice A0_3 l0_3.length c0_3), (11, .int .i64 (l0_3.length : Int)), (12, .int .i64 x12)]) (fun _ => [Go.Proofs.Ytlkofdedkfmaeaa.SL.bx g1 [.slice A0_0 l0_0.length c0_0, .int .i64 a0_1, .int .i64 a0_2, .slice A0_3 l0_3.length c0_3, .int .i64 a0_4, .int .i64 a0_5, .int .i64 a0_6] 33]) 0 k 1 H (by exact ⟨rfl, rfl, rfl, rfl, trivial⟩) rfl ?_
 intro x12 m H
 cases m with
 | zero => exact absurd H (by simp [impl_DeliveredOnce.l0])
 | succ m =>
 rw [impl_DeliveredOnce.l0] at H
 refine Go.Proofs.Ytlkofdedkfmaeaa.SE.sq ?_
 refine Go.Proofs.Ytlkofdedkfmaeaa.SE.rg ?_
 refine Go.Proofs.Ytlkofdedkfmaeaa.SE.bin (h := ?_)
 refine Go.Proofs.Ytlkofdedkfmaeaa.SE.nx (h := ?_)
 refine Go.Proofs.Ytlkofdedkfmaeaa.SE.sq ?_
 by_cases c1 : x12 < (l0_3.length : Int)
 rotate_left
 ·rw [if_neg c1] at H
  obtain rfl := Option.some.inj H
  refine Go.Proofs.Ytlkofdedkfmaeaa.SE.cd_f c1 (h := ?_)
  refine Go.Proofs.Ytlkofdedkfmaeaa.SE.ex (h := ?_)
  refine Go.Proofs.Ytlkofdedkfmaeaa.SE.sq ?_
  refine Go.Proofs.Ytlkofdedkfmaeaa.SE.rg ?_
  refine Go.Proofs.Ytlkofdedkfmaeaa.SE.mv (h := ?_)
  refine Go.Proofs.Ytlkofdedkfmaeaa.SE.nx (h := ?_)
  refine Go.Proofs.Ytlkofdedkfmaeaa.SE.rt (h := fun W I => ?_)
  exact ⟨rfl, I.below⟩
 rw [if_pos c1] at H
 refine Go.Proofs.Ytlkofdedkfmaeaa.SE.cd_t c1 (h := ?_)
 refine Go.Proofs.Ytlkofdedkfmaeaa.SE.nxc (h := ?_)
 by_cases c2 : 0 ≤ x12
 rotate_left
 ·rw [if_neg c2] at H
  cases H
 rw [if_pos c2, if_pos c1] at H
 obtain ⟨ad, _, rfl, K, xe⟩ := Go.Proofs.Ytlkofdedkfmaeaa.SE.get_ hr0_3 z97 x12 c2 c1 22
 replace K : k97.K w (rd_T97 l0_3 x12) _ := K
 obtain ⟨Ae_0, ce_0, Ae_6, ce_6, Ae_17, ce_17, Ae_20, ce_20, Ae_21, ce_21, rfl, le_0, ge_0, le_6, ge_6, le_17, ge_17, le_20, ge_20, le_21, ge_21⟩ := k97_open K
 refine Go.Proofs.Ytlkofdedkfmaeaa.SE.sq ?_
 refine Go.Proofs.Ytlkofdedkfmaeaa.SE.bl ?_
 refine Go.Proofs.Ytlkofdedkfmaeaa.SE.sq ?_
 refine Go.Proofs.Ytlkofdedkfmaeaa.SE.rg ?_
 refine Go.Proofs.Ytlkofdedkfmaeaa.SE.ix (sz := 22) (hu := Try.underlying31) (h0 := c2) (h1 := c1) (h := ?_)
 refine Go.Proofs.Ytlkofdedkfmaeaa.SE.lo (hu := Try.underlying97) (hc := xe) (h := ?_)
 refine Go.Proofs.Ytlkofdedkfmaeaa.SE.al (hi := info97) (h := ?_); intro g4
 refine Go.Proofs.Ytlkofdedkfmaeaa.SE.st 1 (h := ?_)
 refine Go.Proofs.Ytlkofdedkfmaeaa.SE.nx (h := ?_)
 refine Go.Proofs.Ytlkofdedkfmaeaa.SE.sq ?_
 refine Go.Proofs.Ytlkofdedkfmaeaa.SE.rg ?_
 refine Go.Proofs.Ytlkofdedkfmaeaa.SE.fld 21 (hu := Try.underlying97) (h := ?_)
 refine Go.Proofs.Ytlkofdedkfmaeaa.SE.ld 1 (hu := Try.underlying95) (h := ?_)
 refine Go.Proofs.Ytlkofdedkfmaeaa.SE.len (hu := Try.underlying95) (h := ?_)
 refine Go.Proofs.Ytlkofdedkfmaeaa.SE.mv (h := ?_)
 refine Go.Proofs.Ytlkofdedkfmaeaa.SE.nx (h := ?_)
 refine Go.Proofs.Ytlkofdedkfmaeaa.SE.bl ?_
 refine Go.Proofs.Ytlkofdedkfmaeaa.SE.lp (σ := Int) (fun x19 m1 => impl_DeliveredOnce.l1 m1 l0_3 (l0_3.length : Int) x12 ((rd_T97 l0_3 x12).f8) (((rd_T97 l0_3 x12).f8).length : Int) x19 ((rd_T97 l0_3 x12).f0.f0) ((rd_T97 l0_3 x12).f0.f1) ((rd_T97 l0_3 x12).f1) ((rd_T97 l0_3 x12).f2.f0) ((rd_T97 l0_3 x12).f2.f1) ((rd_T97 l0_3 x12).f2.f2) ((rd_T97 l0_3 x12).f2.f3) ((rd_T97 l0_3 x12).f2.f4) ((rd_T97 l0_3 x12).f3.f0.f0) ((rd_T97 l0_3 x12).f3.f0.f1) ((rd_T97 l0_3 x12).f3.f0.f2) ((rd_T97 l0_3 x12).f3.f0.f3) ((rd_T97 l0_3 x12).f3.f1) ((rd_T97 l0_3 x12).f3.f2) ((rd_T97 l0_3 x12).f3.f3) ((rd_T97 l0_3 x12).f3.f4) ((rd_T97 l0_3 x12).f3.f5) ((rd_T97 l0_3 x12).f4) ((rd_T97 l0_3 x12).f5) ((rd_T97 l0_3 x12).f6) ((rd_T97 l0_3 x12).f7) ((rd_T97 l0_3 x12).f8) = some r ∧ m1 ≤ m) (fun x19 => [(1, .pointer (some ⟨g1, 0, none⟩)), (10, .slice (some ad) l0_3.length c0_3), (11, .int .i64 (l0_3.length : Int)), (4, .pointer (some ⟨g4, 0, none⟩)), (17, .slice Ae_21 ((rd_T97 l0_3 x12).f8).length ce_21), (18, .int .i64 (((rd_T97 l0_3 x12).f8).length : Int)), (12, .int .i64 x12), (19, .int .i64 x19)]) (fun _ => [Go.Proofs.Ytlkofdedkfmaeaa.SL.bx g1 [.slice A0_0 l0_0.length c0_0, .int .i64 a0_1, .int .i64 a0_2, .slice (some ad) l0_3.length c0_3, .int .i64 a0_4, .int .i64 a0_5, .int .i64 a0_6] 33, Go.Proofs.Ytlkofdedkfmaeaa.SL.bx g4 [.slice Ae_0 ((rd_T97 l0_3 x12).f0.f0).length ce_0, .int .i64 ((rd_T97 l0_3 x12).f0.f1), .bool ((rd_T97 l0_3 x12).f1), .int .i64 ((rd_T97 l0_3 x12).f2.f0), .int .i64 ((rd_T97 l0_3 x12).f2.f1), .int .i64 ((rd_T97 l0_3 x12).f2.f2), .slice Ae_6 ((rd_T97 l0_3 x12).f2.f3).length ce_6, .bool ((rd_T97 l0_3 x12).f2.f4), .int .i64 ((rd_T97 l0_3 x12).f3.f0.f0), .int .i64 ((rd_T97 l0_3 x12).f3.f0.f1), .int .i64 ((rd_T97 l0_3 x12).f3.f0.f2), .int .i64 ((rd_T97 l0_3 x12).f3.f0.f3), .int .i64 ((rd_T97 l0_3 x12).f3.f1), .int .i64 ((rd_T97 l0_3 x12).f3.f2), .int .i64 ((rd_T97 l0_3 x12).f3.f3), .int .i64 ((rd_T97 l0_3 x12).f3.f4), .int .i64 ((rd_T97 l0_3 x12).f3.f5), .slice Ae_17 ((rd_T97 l0_3 x12).f4).length ce_17, .int .i64 ((rd_T97 l0_3 x12).f5), .int .i64 ((rd_T97 l0_3 x12).f6), .slice Ae_20 ((rd_T97 l0_3 x12).f7).length ce_20, .slice Ae_21 ((rd_T97 l0_3 x12).f8).length ce_21] 97]) 0 m 2 ⟨H, Nat.le_refl _⟩ (by exact ⟨rfl, rfl, rfl, rfl, rfl, rfl, rfl, rfl, trivial⟩) rfl ?_
 clear H
 rintro x19 m1 ⟨H, hm1⟩
 cases m1 with
 | zero => exact absurd H (by simp [impl_DeliveredOnce.l1])
 | succ m1 =>
 rw [impl_DeliveredOnce.l1] at H
 refine Go.Proofs.Ytlkofdedkfmaeaa.SE.sq ?_
 refine Go.Proofs.Ytlkofdedkfmaeaa.SE.rg ?_
 refine Go.Proofs.Ytlkofdedkfmaeaa.SE.bin (h := ?_)
 refine Go.Proofs.Ytlkofdedkfmaeaa.SE.nx (h := ?_)
 refine Go.Proofs.Ytlkofdedkfmaeaa.SE.sq ?_
 by_cases c3 : x19 < ((((rd_T97 l0_3 x12).f8).length : Nat) : Int)
 rotate_left
 ·rw [if_neg c3] at H
  refine Go.Proofs.Ytlkofdedkfmaeaa.SE.cd_f c3 (h := ?_)
  refine Go.Proofs.Ytlkofdedkfmaeaa.SE.ex (h := ?_)
  refine Go.Proofs.Ytlkofdedkfmaeaa.SE.rg ?_
  refine Go.Proofs.Ytlkofdedkfmaeaa.SE.bin (h := ?_)
  refine Go.Proofs.Ytlkofdedkfmaeaa.SE.mv (h := ?_)
  exact Go.Proofs.Ytlkofdedkfmaeaa.SE.ag (wrap64 (x12 + 1)) m1 1 (hm := by omega) (hj := H) (hs := by exact ⟨rfl, rfl, rfl, rfl, trivial⟩) (hL := rfl)
 rw [if_pos c3] at H
 refine Go.Proofs.Ytlkofdedkfmaeaa.SE.cd_t c3 (h := ?_)
 refine Go.Proofs.Ytlkofdedkfmaeaa.SE.nxc (h := ?_)
 by_cases c4 : 0 ≤ x19
 rotate_left
 ·rw [if_neg c4] at H
  cases H
 rw [if_pos c4, if_pos c3] at H
 rw [if_pos (show x19 ≤ ((((rd_T97 l0_3 x12).f8).length : Nat) : Int) by omega), Option.bind_some] at H
 obtain ⟨ad2, _, rfl, K2, xd⟩ := Go.Proofs.Ytlkofdedkfmaeaa.SE.get_ ge_21 z102 x19 c4 c3 4
 replace K2 : k102.K w (rd_T102 ((rd_T97 l0_3 x12).f8) x19) _ := K2
 obtain ⟨Ad, cd, rfl, ld, gd⟩ := k102_open K2
 refine Go.Proofs.Ytlkofdedkfmaeaa.SE.sq ?_
 refine Go.Proofs.Ytlkofdedkfmaeaa.SE.bl ?_
 refine Go.Proofs.Ytlkofdedkfmaeaa.SE.sq ?_
 refine Go.Proofs.Ytlkofdedkfmaeaa.SE.rg ?_
 refine Go.Proofs.Ytlkofdedkfmaeaa.SE.mv (h := ?_)
 refine Go.Proofs.Ytlkofdedkfmaeaa.SE.ix (sz := 4) (hu := Try.underlying95) (h0 := c4) (h1 := c3) (h := ?_)
 refine Go.Proofs.Ytlkofdedkfmaeaa.SE.lo (hu := Try.underlying102) (hc := xd) (h := ?_)
 refine Go.Proofs.Ytlkofdedkfmaeaa.SE.al (hi := info102) (h := ?_); intro g6
 refine Go.Proofs.Ytlkofdedkfmaeaa.SE.mv (h := ?_)
 refine Go.Proofs.Ytlkofdedkfmaeaa.SE.st 2 (h := ?_)
 refine Go.Proofs.Ytlkofdedkfmaeaa.SE.nx (h := ?_)
 refine Go.Proofs.Ytlkofdedkfmaeaa.SE.sq ?_
 refine Go.Proofs.Ytlkofdedkfmaeaa.SE.rg ?_
 refine Go.Proofs.Ytlkofdedkfmaeaa.SE.fld 21 (hu := Try.underlying97) (h := ?_)
 refine Go.Proofs.Ytlkofdedkfmaeaa.SE.ld 1 (hu := Try.underlying95) (h := ?_)
 refine Go.Proofs.Ytlkofdedkfmaeaa.SE.mv (h := ?_)
 refine Go.Proofs.Ytlkofdedkfmaeaa.SE.slh (hu := Try.underlying95) (sz := 4) (h0 := c4) (h1 := by omega) (l := (((rd_T97 l0_3 x12).f8).take x19.toNat).length) (hl := by rw [List.length_take]; omega) (h := ?_)
 refine Go.Proofs.Ytlkofdedkfmaeaa.SE.len (hu := Try.underlying95) (h := ?_)
 refine Go.Proofs.Ytlkofdedkfmaeaa.SE.mv (h := ?_)
 refine Go.Proofs.Ytlkofdedkfmaeaa.SE.nx (h := ?_)
 refine Go.Proofs.Ytlkofdedkfmaeaa.SE.bl ?_
 have gt : k102.C w (some ad2) (((rd_T97 l0_3 x12).f8).take x19.toNat).length (((rd_T97 l0_3 x12).f8).take x19.toNat) := by rw [List.length_take, Nat.min_eq_left (by omega)]; exact Go.Proofs.Ytlkofdedkfmaeaa.SE.C_take ge_21 (by omega)
 refine Go.Proofs.Ytlkofdedkfmaeaa.SE.lp (σ := Int) (fun x29 m2 => impl_DeliveredOnce.l2 m2 l0_3 (l0_3.length : Int) x12 ((rd_T97 l0_3 x12).f8) (((rd_T97 l0_3 x12).f8).length : Int) x19 (((rd_T97 l0_3 x12).f8).take x19.toNat) ((((rd_T97 l0_3 x12).f8).take x19.toNat).length : Int) x29 ((rd_T97 l0_3 x12).f0.f0) ((rd_T97 l0_3 x12).f0.f1) ((rd_T97 l0_3 x12).f1) ((rd_T97 l0_3 x12).f2.f0) ((rd_T97 l0_3 x12).f2.f1) ((rd_T97 l0_3 x12).f2.f2) ((rd_T97 l0_3 x12).f2.f3) ((rd_T97 l0_3 x12).f2.f4) ((rd_T97 l0_3 x12).f3.f0.f0) ((rd_T97 l0_3 x12).f3.f0.f1) ((rd_T97 l0_3 x12).f3.f0.f2) ((rd_T97 l0_3 x12).f3.f0.f3) ((rd_T97 l0_3 x12).f3.f1) ((rd_T97 l0_3 x12).f3.f2) ((rd_T97 l0_3 x12).f3.f3) ((rd_T97 l0_3 x12).f3.f4) ((rd_T97 l0_3 x12).f3.f5) ((rd_T97 l0_3 x12).f4) ((rd_T97 l0_3 x12).f5) ((rd_T97 l0_3 x12).f6) ((rd_T97 l0_3 x12).f7) ((rd_T97 l0_3 x12).f8) ((rd_T102 ((rd_T97 l0_3 x12).f8) x19).f0) ((rd_T102 ((rd_T97 l0_3 x12).f8) x19).f1) ((rd_T102 ((rd_T97 l0_3 x12).f8) x19).f2) ((rd_T102 ((rd_T97 l0_3 x12).f8) x19).f3) = some r ∧ m2 ≤ m1) (fun x29 => [(1, .pointer (some ⟨g1, 0, none⟩)), (10, .slice (some ad) l0_3.length c0_3), (11, .int .i64 (l0_3.length : Int)), (4, .pointer (some ⟨g4, 0, none⟩)), (17, .slice (some ad2) ((rd_T97 l0_3 x12).f8).length ce_21), (18, .int .i64 (((rd_T97 l0_3 x12).f8).length : Int)), (12, .int .i64 x12), (6, .pointer (some ⟨g6, 0, none⟩)), (27, .slice (some ad2) (((rd_T97 l0_3 x12).f8).take x19.toNat).length ce_21), (28, .int .i64 ((((rd_T97 l0_3 x12).f8).take x19.toNat).length : Int)), (19, .int .i64 x19), (29, .int .i64 x29)]) (fun _ => [Go.Proofs.Ytlkofdedkfmaeaa.SL.bx g1 [.slice A0_0 l0_0.length c0_0, .int .i64 a0_1, .int .i64 a0_2, .slice (some ad) l0_3.length c0_3, .int .i64 a0_4, .int .i64 a0_5, .int .i64 a0_6] 33, Go.Proofs.Ytlkofdedkfmaeaa.SL.bx g4 [.slice Ae_0 ((rd_T97 l0_3 x12).f0.f0).length ce_0, .int .i64 ((rd_T97 l0_3 x12).f0.f1), .bool ((rd_T97 l0_3 x12).f1), .int .i64 ((rd_T97 l0_3 x12).f2.f0), .int .i64 ((rd_T97 l0_3 x12).f2.f1), .int .i64 ((rd_T97 l0_3 x12).f2.f2), .slice Ae_6 ((rd_T97 l0_3 x12).f2.f3).length ce_6, .bool ((rd_T97 l0_3 x12).f2.f4), .int .i64 ((rd_T97 l0_3 x12).f3.f0.f0), .int .i64 ((rd_T97 l0_3 x12).f3.f0.f1), .int .i64 ((rd_T97 l0_3 x12).f3.f0.f2), .int .i64 ((rd_T97 l0_3 x12).f3.f0.f3), .int .i64 ((rd_T97 l0_3 x12).f3.f1), .int .i64 ((rd_T97 l0_3 x12).f3.f2), .int .i64 ((rd_T97 l0_3 x12).f3.f3), .int .i64 ((rd_T97 l0_3 x12).f3.f4), .int .i64 ((rd_T97 l0_3 x12).f3.f5), .slice Ae_17 ((rd_T97 l0_3 x12).f4).length ce_17, .int .i64 ((rd_T97 l0_3 x12).f5), .int .i64 ((rd_T97 l0_3 x12).f6), .slice Ae_20 ((rd_T97 l0_3 x12).f7).length ce_20, .slice (some ad2) ((rd_T97 l0_3 x12).f8).length ce_21] 97, Go.Proofs.Ytlkofdedkfmaeaa.SL.bx g6 [.int .i64 ((rd_T102 ((rd_T97 l0_3 x12).f8) x19).f0), .int .i64 ((rd_T102 ((rd_T97 l0_3 x12).f8) x19).f1), .int .i64 ((rd_T102 ((rd_T97 l0_3 x12).f8) x19).f2), .slice Ad ((rd_T102 ((rd_T97 l0_3 x12).f8) x19).f3).length cd] 102]) 0 m1 3 ⟨H, Nat.le_refl _⟩ (by exact ⟨rfl, rfl, rfl, rfl, rfl, rfl, rfl, rfl, rfl, rfl, rfl, rfl, trivial⟩) rfl ?_
 clear H
 rintro x29 m2 ⟨H, hm2⟩
 cases m2 with
 | zero => exact absurd H (by simp [impl_DeliveredOnce.l2])
 | succ m2 =>
 rw [impl_DeliveredOnce.l2] at H
 refine Go.Proofs.Ytlkofdedkfmaeaa.SE.sq ?_
 refine Go.Proofs.Ytlkofdedkfmaeaa.SE.rg ?_
 refine Go.Proofs.Ytlkofdedkfmaeaa.SE.bin (h := ?_)
 refine Go.Proofs.Ytlkofdedkfmaeaa.SE.nx (h := ?_)
 refine Go.Proofs.Ytlkofdedkfmaeaa.SE.sq ?_
 by_cases c5 : x29 < ((((rd_T97 l0_3 x12).f8).take x19.toNat).length : Int)
 rotate_left
 ·rw [if_neg c5] at H
  refine Go.Proofs.Ytlkofdedkfmaeaa.SE.cd_f c5 (h := ?_)
  refine Go.Proofs.Ytlkofdedkfmaeaa.SE.ex (h := ?_)
  refine Go.Proofs.Ytlkofdedkfmaeaa.SE.rg ?_
  refine Go.Proofs.Ytlkofdedkfmaeaa.SE.bin (h := ?_)
  refine Go.Proofs.Ytlkofdedkfmaeaa.SE.mv (h := ?_)
  exact Go.Proofs.Ytlkofdedkfmaeaa.SE.ag (wrap64 (x19 + 1)) m2 2 (hm := by omega) (hj := by exact ⟨H, by omega⟩) (hs := by exact ⟨rfl, rfl, rfl, rfl, rfl, rfl, rfl, rfl, trivial⟩) (hL := rfl)
 rw [if_pos c5] at H
 refine Go.Proofs.Ytlkofdedkfmaeaa.SE.cd_t c5 (h := ?_)
 refine Go.Proofs.Ytlkofdedkfmaeaa.SE.nxc (h := ?_)
 by_cases c6 : 0 ≤ x29
 rotate_left
 ·rw [if_neg c6] at H
  cases H
 rw [if_pos c6, if_pos c5] at H
 obtain ⟨ad3, _, e3, K3, xf⟩ := Go.Proofs.Ytlkofdedkfmaeaa.SE.get_ gt z102 x29 c6 c5 4
 cases e3
 replace K3 : k102.K w (rd_T102 (((rd_T97 l0_3 x12).f8).take x19.toNat) x29) _ := K3
 obtain ⟨Af, cf, rfl, lf, gf⟩ := k102_open K3
 refine Go.Proofs.Ytlkofdedkfmaeaa.SE.sq ?_
 refine Go.Proofs.Ytlkofdedkfmaeaa.SE.bl ?_
 refine Go.Proofs.Ytlkofdedkfmaeaa.SE.sq ?_
 refine Go.Proofs.Ytlkofdedkfmaeaa.SE.rg ?_
 refine Go.Proofs.Ytlkofdedkfmaeaa.SE.ix (sz := 4) (hu := Try.underlying95) (h0 := c6) (h1 := c5) (h := ?_)
 refine Go.Proofs.Ytlkofdedkfmaeaa.SE.lo (hu := Try.underlying102) (hc := xf) (h := ?_)
 refine Go.Proofs.Ytlkofdedkfmaeaa.SE.al (hi := info102) (h := ?_); intro g8
 refine Go.Proofs.Ytlkofdedkfmaeaa.SE.st 3 (h := ?_)
 refine Go.Proofs.Ytlkofdedkfmaeaa.SE.nx (h := ?_)
 refine Go.Proofs.Ytlkofdedkfmaeaa.SE.sq ?_
 refine Go.Proofs.Ytlkofdedkfmaeaa.SE.rg ?_
 refine Go.Proofs.Ytlkofdedkfmaeaa.SE.fld 0 (hu := Try.underlying102) (h := ?_)
 refine Go.Proofs.Ytlkofdedkfmaeaa.SE.ld 2 (hu := Try.underlying3) (h := ?_)
 refine Go.Proofs.Ytlkofdedkfmaeaa.SE.fld 0 (hu := Try.underlying102) (h := ?_)
 refine Go.Proofs.Ytlkofdedkfmaeaa.SE.ld 3 (hu := Try.underlying3) (h := ?_)
 refine Go.Proofs.Ytlkofdedkfmaeaa.SE.bin (h := ?_)
 refine Go.Proofs.Ytlkofdedkfmaeaa.SE.mv (h := ?_)
 by_cases c7 : (rd_T102 ((rd_T97 l0_3 x12).f8) x19).f0 = (rd_T102 (((rd_T97 l0_3 x12).f8).take x19.toNat) x29).f0
 rotate_left
 ·rw [if_neg c7] at H
  refine Go.Proofs.Ytlkofdedkfmaeaa.SE.gf (b' := false) (hl := by rw [Go.Proofs.Ytlkofdedkfmaeaa.SE.df c7]; rfl) (h := ?_)
  refine Go.Proofs.Ytlkofdedkfmaeaa.SE.gf (b' := false) (hl := by rw [Go.Proofs.Ytlkofdedkfmaeaa.SE.df c7]; rfl) (h := ?_)
  refine Go.Proofs.Ytlkofdedkfmaeaa.SE.gf (b' := false) (hl := by rw [Go.Proofs.Ytlkofdedkfmaeaa.SE.df c7]; rfl) (h := ?_)
  refine Go.Proofs.Ytlkofdedkfmaeaa.SE.gf (b' := false) (hl := by rw [Go.Proofs.Ytlkofdedkfmaeaa.SE.df c7]; rfl) (h := ?_)
  refine Go.Proofs.Ytlkofdedkfmaeaa.SE.gf (b' := false) (hl := by rw [Go.Proofs.Ytlkofdedkfmaeaa.SE.df c7]; rfl) (h := ?_)
  refine Go.Proofs.Ytlkofdedkfmaeaa.SE.pick (b := false) (hc := by rw [Go.Proofs.Ytlkofdedkfmaeaa.SE.df c7]; rfl) (hx := rfl) (h := ?_)
  refine Go.Proofs.Ytlkofdedkfmaeaa.SE.nx (h := ?_)
  refine Go.Proofs.Ytlkofdedkfmaeaa.SE.cd (hx := rfl) (fun e => by cases e) (fun _ => ?_)
  refine Go.Proofs.Ytlkofdedkfmaeaa.SE.nxc (h := ?_)
  refine Go.Proofs.Ytlkofdedkfmaeaa.SE.rg ?_
  refine Go.Proofs.Ytlkofdedkfmaeaa.SE.bin (h := ?_)
  refine Go.Proofs.Ytlkofdedkfmaeaa.SE.mv (h := ?_)
  exact Go.Proofs.Ytlkofdedkfmaeaa.SE.ag (wrap64 (x29 + 1)) m2 3 (hm := by omega) (hj := by exact ⟨H, by omega⟩) (hs := by exact ⟨rfl, rfl, rfl, rfl, rfl, rfl, rfl, rfl, rfl, rfl, rfl, rfl, trivial⟩) (hL := rfl)
 rw [if_pos c7] at H
 refine Go.Proofs.Ytlkofdedkfmaeaa.SE.gt (b := true) (hl := by rw [Go.Proofs.Ytlkofdedkfmaeaa.SE.dt c7]; rfl) (h := ?_)
 refine Go.Proofs.Ytlkofdedkfmaeaa.SE.fld 2 (hu := Try.underlying102) (h := ?_)
 refine Go.Proofs.Ytlkofdedkfmaeaa.SE.gt (b := true) (hl := by rw [Go.Proofs.Ytlkofdedkfmaeaa.SE.dt c7]; rfl) (h := ?_)
 refine Go.Proofs.Ytlkofdedkfmaeaa.SE.ld 2 (hu := Try.underlying3) (h := ?_)
 refine Go.Proofs.Ytlkofdedkfmaeaa.SE.gt (b := true) (hl := by rw [Go.Proofs.Ytlkofdedkfmaeaa.SE.dt c7]; rfl) (h := ?_)
 refine Go.Proofs.Ytlkofdedkfmaeaa.SE.fld 2 (hu := Try.underlying102) (h := ?_)
 refine Go.Proofs.Ytlkofdedkfmaeaa.SE.gt (b := true) (hl := by rw [Go.Proofs.Ytlkofdedkfmaeaa.SE.dt c7]; rfl) (h := ?_)
 refine Go.Proofs.Ytlkofdedkfmaeaa.SE.ld 3 (hu := Try.underlying3) (h := ?_)
 refine Go.Proofs.Ytlkofdedkfmaeaa.SE.gt (b := true) (hl := by rw [Go.Proofs.Ytlkofdedkfmaeaa.SE.dt c7]; rfl) (h := ?_)
 refine Go.Proofs.Ytlkofdedkfmaeaa.SE.bin (h := ?_)
 refine Go.Proofs.Ytlkofdedkfmaeaa.SE.pick (b := true) (hc := by rw [Go.Proofs.Ytlkofdedkfmaeaa.SE.dt c7]; rfl) (hx := rfl) (h := ?_)
 refine Go.Proofs.Ytlkofdedkfmaeaa.SE.nx (h := ?_)
 by_cases c8 : (rd_T102 ((rd_T97 l0_3 x12).f8) x19).f2 = (rd_T102 (((rd_T97 l0_3 x12).f8).take x19.toNat) x29).f2
 ·rw [if_pos c8] at H
  obtain rfl := Option.some.inj H
  refine Go.Proofs.Ytlkofdedkfmaeaa.SE.cd_t c8 (h := ?_)
  refine Go.Proofs.Ytlkofdedkfmaeaa.SE.sq ?_
  refine Go.Proofs.Ytlkofdedkfmaeaa.SE.rg ?_
  refine Go.Proofs.Ytlkofdedkfmaeaa.SE.mv (h := ?_)
  refine Go.Proofs.Ytlkofdedkfmaeaa.SE.nx (h := ?_)
  refine Go.Proofs.Ytlkofdedkfmaeaa.SE.rt (h := fun W I => ?_)
  exact ⟨rfl, I.below⟩
 rw [if_neg c8] at H
 refine Go.Proofs.Ytlkofdedkfmaeaa.SE.cd_f c8 (h := ?_)
 refine Go.Proofs.Ytlkofdedkfmaeaa.SE.nxc (h := ?_)
 refine Go.Proofs.Ytlkofdedkfmaeaa.SE.rg ?_
 refine Go.Proofs.Ytlkofdedkfmaeaa.SE.bin (h := ?_)
 refine Go.Proofs.Ytlkofdedkfmaeaa.SE.mv (h := ?_)
 exact Go.Proofs.Ytlkofdedkfmaeaa.SE.ag (wrap64 (x29 + 1)) m2 3 (hm := by omega) (hj := by exact ⟨H, by omega⟩) (hs := by exact ⟨rfl, rfl, rfl, rfl, rfl, rfl, rfl, rfl, rfl, rfl, rfl, rfl, trivial⟩) (hL := rfl)

