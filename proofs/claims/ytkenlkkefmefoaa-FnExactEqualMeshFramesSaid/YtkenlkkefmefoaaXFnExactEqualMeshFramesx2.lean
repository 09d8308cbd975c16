/- The functions that the law reaches as plain Lean functions, and of each a proof that its call computes it. Conditions: those that each theorem names. -/
import Derived.Test.YtkenlkkefmefoaaWS
import Derived.Test.YtkenlkkefmefoaaXFnExactEqualMeshFramesx0
import Derived.Test.YtkenlkkefmefoaaXFnExactEqualMeshFramesx1
namespace Go.Proofs.Ytkenlkkefmefoaa.XFnExactEqualMeshFrames
open Go.RowKit Go.Proofs.YtkenlkkefmefoaaW.PrintWords Go.Proofs.YtkenlkkefmefoaaW.PrintLast Go.Proofs.YtkenlkkefmefoaaW.PrintMore Go.Proofs.Ytkenlkkefmefoaa.X
attribute [local go_sem] max2_int min2_int max_two min_two max_three min_three max_four min_four   -- for this text's walks alone
set_option linter.unusedVariables false
set_option linter.unusedSimpArgs false

/-! ### laws_FnExactEqualMeshFrames: function 6 -/
def laws_FnExactEqualMeshFrames.f (k : Nat) (a0_0 : Int) (a0_1 : Int) (a0_2 : Int) (a0_3 : Int) (l0_4 : List Int) (a1_0 : Int) (a1_1 : Int) (a1_2 : Int) (a1_3 : Int) (l1_4 : List Int) : Option (Bool) := (laws_szMeshFrame.f a0_0 a0_1 a0_2 a0_3 l0_4 1048576).bind fun t129 => (if t129 < 0 then (some true) else ((laws_szMeshFrame.f a1_0 a1_1 a1_2 a1_3 l1_4 t129).bind fun t130 => (if t130 < 0 then (some true) else ((laws_toMeshFrame.f k a0_0 a0_1 a0_2 a0_3 l0_4).bind fun bt131 => ((laws_toMeshFrame.f k a1_0 a1_1 a1_2 a1_3 l1_4).bind fun bt138 => ((spec_EqualMeshFrames.f bt131.1 bt131.2.1 bt131.2.2.1 bt131.2.2.2.1 bt131.2.2.2.2 bt138.1 bt138.2.1 bt138.2.2.1 bt138.2.2.2.1 bt138.2.2.2.2).bind fun t145 => ((laws_toMeshFrame.f k a0_0 a0_1 a0_2 a0_3 l0_4).bind fun bt146 => ((laws_toMeshFrame.f k a1_0 a1_1 a1_2 a1_3 l1_4).bind fun bt154 => ((impl_EqualMeshFrames.f k bt146.1 bt146.2.1 bt146.2.2.1 bt146.2.2.2.1 bt146.2.2.2.2 bt154.1 bt154.2.1 bt154.2.2.1 bt154.2.2.2.1 bt154.2.2.2.2).bind fun t162 => (if (t162 != t145) = true then (some false) else ((laws_toMeshFrame.f k a0_0 a0_1 a0_2 a0_3 l0_4).bind fun bt163 => ((laws_eqMeshFrame.f k bt146.1 bt146.2.1 bt146.2.2.1 bt146.2.2.2.1 bt146.2.2.2.2 bt163.1 bt163.2.1 bt163.2.2.1 bt163.2.2.2.1 bt163.2.2.2.2).bind fun t170 => (if t170 = true then ((laws_toMeshFrame.f k a1_0 a1_1 a1_2 a1_3 l1_4).bind fun bt171 => ((laws_eqMeshFrame.f k bt154.1 bt154.2.1 bt154.2.2.1 bt154.2.2.2.1 bt154.2.2.2.2 bt171.1 bt171.2.1 bt171.2.2.1 bt171.2.2.2.1 bt171.2.2.2.2).bind fun t178 => (if t178 = true then (some true) else (some false)))) else (some false))))))))))))))
theorem laws_FnExactEqualMeshFrames.mono : ∀ a0 a1 a2 a3 a4 a5 a6 a7 a8 a9 k, LeO (laws_FnExactEqualMeshFrames.f k a0 a1 a2 a3 a4 a5 a6 a7 a8 a9) (laws_FnExactEqualMeshFrames.f (k + 1) a0 a1 a2 a3 a4 a5 a6 a7 a8 a9) := by
 intro a0 a1 a2 a3 a4 a5 a6 a7 a8 a9 k
 unfold laws_FnExactEqualMeshFrames.f
 repeat' first
   | (with_reducible exact impl_EqualMeshFrames.mono _ _ _ _ _ _ _ _ _ _ _)
   | (with_reducible exact laws_eqMeshFrame.mono _ _ _ _ _ _ _ _ _ _ _)
   | (with_reducible exact laws_toMeshFrame.mono _ _ _ _ _ _)
   | (with_reducible exact LeO.refl _)
   | (with_reducible exact LeO.none _)
   | (with_reducible refine LeO.ite ?_ ?_)
   | (with_reducible refine LeO.bind ?_ (fun _ => ?_))
   | exact impl_EqualMeshFrames.mono _ _ _ _ _ _ _ _ _ _ _
   | exact laws_eqMeshFrame.mono _ _ _ _ _ _ _ _ _ _ _
   | exact laws_toMeshFrame.mono _ _ _ _ _ _
   | exact LeO.none _
   | refine LeO.ite ?_ ?_
   | refine LeO.bind ?_ (fun _ => ?_)
set_option maxHeartbeats 8000000 in
set_option maxRecDepth 100000 in
theorem laws_FnExactEqualMeshFrames.calls (k : Nat) (a0_0 : Int) (a0_1 : Int) (a0_2 : Int) (a0_3 : Int) (A0_4 : Option Addr) (c0_4 : Nat) (l0_4 : List Int) (a1_0 : Int) (a1_1 : Int) (a1_2 : Int) (a1_3 : Int) (A1_4 : Option Addr) (c1_4 : Nat) (l1_4 : List Int) (r : Bool) (w : World) (hr0_4 : Kd.C (Kd.int .u8) w A0_4 l0_4.length l0_4) (hc0_4 : l0_4.length ≤ c0_4) (hr1_4 : Kd.C (Kd.int .u8) w A1_4 l1_4.length l1_4) (hc1_4 : l1_4.length ≤ c1_4) (h : laws_FnExactEqualMeshFrames.f k a0_0 a0_1 a0_2 a0_3 l0_4 a1_0 a1_1 a1_2 a1_3 l1_4 = some r) :
  Calls Try.prog 6 #[.agg #[.int .i64 a0_0, .int .i64 a0_1, .int .i64 a0_2, .int .i64 a0_3, .slice A0_4 l0_4.length c0_4], .agg #[.int .i64 a1_0, .int .i64 a1_1, .int .i64 a1_2, .int .i64 a1_3, .slice A1_4 l1_4.length c1_4]] w fun e w' => e = .returned (.bool r) ∧ Below w.heap.size w w' := by
 have hu41 := Try.underlying41
 have hu44 := Try.underlying44
 have HR0_4 := Am_ hr0_4
 have HC0_4 := Am_ hc0_4
 clear hr0_4 hc0_4
 have HR1_4 := Am_ hr1_4
 have HC1_4 := Am_ hc1_4
 clear hr1_4 hc1_4
 have HB := Am_ (Below.refl w.heap.size w)
 have H : ((laws_szMeshFrame.f a0_0 a0_1 a0_2 a0_3 l0_4 1048576).bind fun t129 => (if t129 < 0 then (some true) else ((laws_szMeshFrame.f a1_0 a1_1 a1_2 a1_3 l1_4 t129).bind fun t130 => (if t130 < 0 then (some true) else ((laws_toMeshFrame.f k a0_0 a0_1 a0_2 a0_3 l0_4).bind fun bt131 => ((laws_toMeshFrame.f k a1_0 a1_1 a1_2 a1_3 l1_4).bind fun bt138 => ((spec_EqualMeshFrames.f bt131.1 bt131.2.1 bt131.2.2.1 bt131.2.2.2.1 bt131.2.2.2.2 bt138.1 bt138.2.1 bt138.2.2.1 bt138.2.2.2.1 bt138.2.2.2.2).bind fun t145 => ((laws_toMeshFrame.f k a0_0 a0_1 a0_2 a0_3 l0_4).bind fun bt146 => ((laws_toMeshFrame.f k a1_0 a1_1 a1_2 a1_3 l1_4).bind fun bt154 => ((impl_EqualMeshFrames.f k bt146.1 bt146.2.1 bt146.2.2.1 bt146.2.2.2.1 bt146.2.2.2.2 bt154.1 bt154.2.1 bt154.2.2.1 bt154.2.2.2.1 bt154.2.2.2.2).bind fun t162 => (if (t162 != t145) = true then (some false) else ((laws_toMeshFrame.f k a0_0 a0_1 a0_2 a0_3 l0_4).bind fun bt163 => ((laws_eqMeshFrame.f k bt146.1 bt146.2.1 bt146.2.2.1 bt146.2.2.2.1 bt146.2.2.2.2 bt163.1 bt163.2.1 bt163.2.2.1 bt163.2.2.2.1 bt163.2.2.2.2).bind fun t170 => (if t170 = true then ((laws_toMeshFrame.f k a1_0 a1_1 a1_2 a1_3 l1_4).bind fun bt171 => ((laws_eqMeshFrame.f k bt154.1 bt154.2.1 bt154.2.2.1 bt154.2.2.2.1 bt154.2.2.2.2 bt171.1 bt171.2.1 bt171.2.2.1 bt171.2.2.2.1 bt171.2.2.2.2).bind fun t178 => (if t178 = true then (some true) else (some false)))) else (some false))))))))))))))) = some r := h
 clear h
 replace H := Option.bind_eq_some_iff.mp H
 obtain ⟨t129, A30, H⟩ := H
 replace H : (if t129 < 0 then (some true) else ((laws_szMeshFrame.f a1_0 a1_1 a1_2 a1_3 l1_4 t129).bind fun t130 => (if t130 < 0 then (some true) else ((laws_toMeshFrame.f k a0_0 a0_1 a0_2 a0_3 l0_4).bind fun bt131 => ((laws_toMeshFrame.f k a1_0 a1_1 a1_2 a1_3 l1_4).bind fun bt138 => ((spec_EqualMeshFrames.f bt131.1 bt131.2.1 bt131.2.2.1 bt131.2.2.2.1 bt131.2.2.2.2 bt138.1 bt138.2.1 bt138.2.2.1 bt138.2.2.2.1 bt138.2.2.2.2).bind fun t145 => ((laws_toMeshFrame.f k a0_0 a0_1 a0_2 a0_3 l0_4).bind fun bt146 => ((laws_toMeshFrame.f k a1_0 a1_1 a1_2 a1_3 l1_4).bind fun bt154 => ((impl_EqualMeshFrames.f k bt146.1 bt146.2.1 bt146.2.2.1 bt146.2.2.2.1 bt146.2.2.2.2 bt154.1 bt154.2.1 bt154.2.2.1 bt154.2.2.2.1 bt154.2.2.2.2).bind fun t162 => (if (t162 != t145) = true then (some false) else ((laws_toMeshFrame.f k a0_0 a0_1 a0_2 a0_3 l0_4).bind fun bt163 => ((laws_eqMeshFrame.f k bt146.1 bt146.2.1 bt146.2.2.1 bt146.2.2.2.1 bt146.2.2.2.2 bt163.1 bt163.2.1 bt163.2.2.1 bt163.2.2.2.1 bt163.2.2.2.2).bind fun t170 => (if t170 = true then ((laws_toMeshFrame.f k a1_0 a1_1 a1_2 a1_3 l1_4).bind fun bt171 => ((laws_eqMeshFrame.f k bt154.1 bt154.2.1 bt154.2.2.1 bt154.2.2.2.1 bt154.2.2.2.2 bt171.1 bt171.2.1 bt171.2.2.1 bt171.2.2.2.1 bt171.2.2.2.2).bind fun t178 => (if t178 = true then (some true) else (some false)))) else (some false)))))))))))))) = some r := H
 have A3 := Am_ A30
 clear A30
 by_cases c4 : t129 < 0
 ·rw [if_pos c4] at H
  have c4b0 : decide (t129 < 0) = true := decide_eq_true c4
  clear c4
  obtain rfl := Option.some.inj H
  go_enter Try.func6, Try.ntmps6
  go_wp2_with (first | ((with_reducible refine gate_dst (N := 2) rfl ?_); refine box_event ?hg (N := 2) ?hd (cs := #[.int .i64 a0_0, .int .i64 a0_1, .int .i64 a0_2, .int .i64 a0_3, .slice A0_4 l0_4.length c0_4]) (t := 41) ?hr ?_; (case hd => rfl); (case hg => rfl); (case hr => first | (go_simp; done) | (go_simp; rfl)); intro gb127 hg w5 hbox hb; have n0_ := Am_ (bT_ (by repeat (first | (with_reducible first | exact HB.1 | apply bA_ | apply bN_ | apply bD_) | exact HB.1)) hb); have n1_ := Am_ (hbox); have n2_ := Am_ ((by rw [hg]; exact (bZ_ (by repeat (first | (with_reducible first | exact HB.1 | apply bA_ | apply bN_ | apply bD_) | exact HB.1))) : w.heap.size ≤ gb127)); have n3_ := Am_ ((by rw [hg]; exact (bZ_ (by repeat (first | (with_reducible first | exact HB.1 | apply bA_ | apply bN_ | apply bD_) | exact HB.1))) : w.heap.size ≤ gb127)); clear HB; have HB := n0_; have BK127 := n1_; have GW127 := n2_; have GE127 := n3_; clear n0_ n1_ n2_ n3_ hb hbox hg) | ((with_reducible refine gate_dst (N := 3) rfl ?_); refine box_event ?hg (N := 3) ?hd (cs := #[.int .i64 a1_0, .int .i64 a1_1, .int .i64 a1_2, .int .i64 a1_3, .slice A1_4 l1_4.length c1_4]) (t := 41) ?hr ?_; (case hd => rfl); (case hg => rfl); (case hr => first | (go_simp; done) | (go_simp; rfl)); intro gb128 hg w6 hbox hb; have n0_ := Am_ (kB_ (g := gb127) (o := .cells #[.int .i64 a0_0, .int .i64 a0_1, .int .i64 a0_2, .int .i64 a0_3, .slice A0_4 l0_4.length c0_4] 41 (0, 0)) (by (with_reducible repeat (first | refine kN_ ?_ _ | refine kD_ ?_ | refine kA_ ?_ _)); exact BK127.1) hb); have n1_ := Am_ (bT_ (by repeat (first | (with_reducible first | exact HB.1 | apply bA_ | apply bN_ | apply bD_ | refine bS_ ?_ GE127.1) | exact HB.1)) hb); have n2_ := Am_ (hbox); have n3_ := Am_ ((by rw [hg]; exact (bZ_ (by repeat (first | (with_reducible first | exact HB.1 | apply bA_ | apply bN_ | apply bD_ | refine bS_ ?_ GE127.1) | exact HB.1))) : w.heap.size ≤ gb128)); have n4_ := Am_ ((by rw [hg]; exact (bZ_ (by repeat (first | (with_reducible first | exact HB.1 | apply bA_ | apply bN_ | apply bD_ | refine bS_ ?_ GE127.1) | exact HB.1))) : w.heap.size ≤ gb128)); have n5_ := Am_ ((by rw [hg]; exact Nat.ne_of_lt (blk_lt (g := gb127) (o := .cells #[.int .i64 a0_0, .int .i64 a0_1, .int .i64 a0_2, .int .i64 a0_3, .slice A0_4 l0_4.length c0_4] 41 (0, 0)) (by (with_reducible repeat (first | refine kN_ ?_ _ | refine kD_ ?_ | refine kA_ ?_ _)); exact BK127.1)) : gb127 ≠ gb128)); have n6_ := Am_ ((by rw [hg]; exact Nat.ne_of_gt (blk_lt (g := gb127) (o := .cells #[.int .i64 a0_0, .int .i64 a0_1, .int .i64 a0_2, .int .i64 a0_3, .slice A0_4 l0_4.length c0_4] 41 (0, 0)) (by (with_reducible repeat (first | refine kN_ ?_ _ | refine kD_ ?_ | refine kA_ ?_ _)); exact BK127.1)) : gb128 ≠ gb127)); clear BK127 HB; have BK127 := n0_; have HB := n1_; have BK128 := n2_; have GW128 := n3_; have GE128 := n4_; have NB127_128 := n5_; have NB128_127 := n6_; clear n0_ n1_ n2_ n3_ n4_ n5_ n6_ hb hbox hg; have hnb7 := NB127_128.1; have hnc7 := NB128_127.1; have hcz8_0 : w6.cell? ⟨gb127, 0, none⟩ = some (.int .i64 a0_0) := kC_ BK127.1 0; have hcz8_1 : w6.cell? ⟨gb127, 1, none⟩ = some (.int .i64 a0_1) := kC_ BK127.1 1; have hcz8_2 : w6.cell? ⟨gb127, 2, none⟩ = some (.int .i64 a0_2) := kC_ BK127.1 2; have hcz8_3 : w6.cell? ⟨gb127, 3, none⟩ = some (.int .i64 a0_3) := kC_ BK127.1 3; have hcz8_4 : w6.cell? ⟨gb127, 4, none⟩ = some (.slice A0_4 l0_4.length c0_4) := kC_ BK127.1 4; have hfz8_0 := kF_ BK127.1 0; have hfz8_1 := kF_ BK127.1 1; have hfz8_2 := kF_ BK127.1 2; have hfz8_3 := kF_ BK127.1 3; have hfz8_4 := kF_ BK127.1 4) | ((with_reducible refine gate_callee (f := 26) rfl ?_); refine goesL_ (some 12) rfl rfl Try.func26 (by kernel_rfl) rfl #[.agg #[.int .i64 a0_0, .int .i64 a0_1, .int .i64 a0_2, .int .i64 a0_3, .slice A0_4 l0_4.length c0_4], .int .i64 1048576] rfl (by (try simp only [List.map_toArray, List.map_cons, List.map_nil]); first | done | rfl | (simp only [List.length_drop, List.length_take]; rfl)) ?_; (with_reducible refine (laws_szMeshFrame.calls a0_0 a0_1 a0_2 a0_3 _ _ l0_4 1048576 t129 _ ?side1 ?side2 A3.1).mono ?_); (case side1 => repeat (first | exact (Kd.C_below HR0_4.1 HB.1) | (with_reducible refine Kd.C_alloc ?_ _) | (with_reducible refine Kd.C_drewN ?_ _) | (with_reducible refine Kd.C_drew ?_))); (case side2 => exact HC0_4.1); rintro e w9 ⟨rfl, hb⟩; refine ⟨_, rfl, ?_⟩; have n0_ := Am_ (kB_ (g := gb127) (o := .cells #[.int .i64 a0_0, .int .i64 a0_1, .int .i64 a0_2, .int .i64 a0_3, .slice A0_4 l0_4.length c0_4] 41 (0, 0)) (by (with_reducible repeat (first | refine kN_ ?_ _ | refine kD_ ?_ | refine kA_ ?_ _)); exact BK127.1) hb); have n1_ := Am_ (kB_ (g := gb128) (o := .cells #[.int .i64 a1_0, .int .i64 a1_1, .int .i64 a1_2, .int .i64 a1_3, .slice A1_4 l1_4.length c1_4] 41 (0, 0)) (by (with_reducible repeat (first | refine kN_ ?_ _ | refine kD_ ?_ | refine kA_ ?_ _)); exact BK128.1) hb); have n2_ := Am_ (bT_ (by repeat (first | (with_reducible first | exact HB.1 | apply bA_ | apply bN_ | apply bD_ | refine bS_ ?_ GE127.1 | refine bS_ ?_ GE128.1) | exact HB.1)) hb); clear BK127 BK128 HB; have BK127 := n0_; have BK128 := n1_; have HB := n2_; clear n0_ n1_ n2_; (try clear hb); (try clear hb2); (try clear hk); (try clear hi)))
  go_ret
  exact ⟨by first | rfl | (simp [errW_none, errW_some] <;> rfl) | (simp [*, errW_none, errW_some] <;> rfl), by repeat (first | (with_reducible first | exact HB.1 | apply bA_ | apply bN_ | apply bD_ | refine bS_ ?_ GE127.1 | refine bS_ ?_ GE128.1) | exact HB.1)⟩
 ·rw [if_neg c4] at H
  have c4b0 : decide (t129 < 0) = false := decide_eq_false c4
  clear c4
  replace H := Option.bind_eq_some_iff.mp H
  obtain ⟨t130, A100, H⟩ := H
  replace H : (if t130 < 0 then (some true) else ((laws_toMeshFrame.f k a0_0 a0_1 a0_2 a0_3 l0_4).bind fun bt131 => ((laws_toMeshFrame.f k a1_0 a1_1 a1_2 a1_3 l1_4).bind fun bt138 => ((spec_EqualMeshFrames.f bt131.1 bt131.2.1 bt131.2.2.1 bt131.2.2.2.1 bt131.2.2.2.2 bt138.1 bt138.2.1 bt138.2.2.1 bt138.2.2.2.1 bt138.2.2.2.2).bind fun t145 => ((laws_toMeshFrame.f k a0_0 a0_1 a0_2 a0_3 l0_4).bind fun bt146 => ((laws_toMeshFrame.f k a1_0 a1_1 a1_2 a1_3 l1_4).bind fun bt154 => ((impl_EqualMeshFrames.f k bt146.1 bt146.2.1 bt146.2.2.1 bt146.2.2.2.1 bt146.2.2.2.2 bt154.1 bt154.2.1 bt154.2.2.1 bt154.2.2.2.1 bt154.2.2.2.2).bind fun t162 => (if (t162 != t145) = true then (some false) else ((laws_toMeshFrame.f k a0_0 a0_1 a0_2 a0_3 l0_4).bind fun bt163 => ((laws_eqMeshFrame.f k bt146.1 bt146.2.1 bt146.2.2.1 bt146.2.2.2.1 bt146.2.2.2.2 bt163.1 bt163.2.1 bt163.2.2.1 bt163.2.2.2.1 bt163.2.2.2.2).bind fun t170 => (if t170 = true then ((laws_toMeshFrame.f k a1_0 a1_1 a1_2 a1_3 l1_4).bind fun bt171 => ((laws_eqMeshFrame.f k bt154.1 bt154.2.1 bt154.2.2.1 bt154.2.2.2.1 bt154.2.2.2.2 bt171.1 bt171.2.1 bt171.2.2.1 bt171.2.2.2.1 bt171.2.2.2.2).bind fun t178 => (if t178 = true then (some true) else (some false)))) else (some false)))))))))))) = some r := H
  have A10 := Am_ A100
  clear A100
  by_cases c11 : t130 < 0
  ·rw [if_pos c11] at H
   have c11b0 : decide (t130 < 0) = true := decide_eq_true c11
   clear c11
   obtain rfl := Option.some.inj H
   go_enter Try.func6, Try.ntmps6
   go_wp2_with (first | ((with_reducible refine gate_dst (N := 2) rfl ?_); refine box_event ?hg (N := 2) ?hd (cs := #[.int .i64 a0_0, .int .i64 a0_1, .int .i64 a0_2, .int .i64 a0_3, .slice A0_4 l0_4.length c0_4]) (t := 41) ?hr ?_; (case hd => rfl); (case hg => rfl); (case hr => first | (go_simp; done) | (go_simp; rfl)); intro gb127 hg w12 hbox hb; have n0_ := Am_ (bT_ (by repeat (first | (with_reducible first | exact HB.1 | apply bA_ | apply bN_ | apply bD_) | exact HB.1)) hb); have n1_ := Am_ (hbox); have n2_ := Am_ ((by rw [hg]; exact (bZ_ (by repeat (first | (with_reducible first | exact HB.1 | apply bA_ | apply bN_ | apply bD_) | exact HB.1))) : w.heap.size ≤ gb127)); have n3_ := Am_ ((by rw [hg]; exact (bZ_ (by repeat (first | (with_reducible first | exact HB.1 | apply bA_ | apply bN_ | apply bD_) | exact HB.1))) : w.heap.size ≤ gb127)); clear HB; have HB := n0_; have BK127 := n1_; have GW127 := n2_; have GE127 := n3_; clear n0_ n1_ n2_ n3_ hb hbox hg) | ((with_reducible refine gate_dst (N := 3) rfl ?_); refine box_event ?hg (N := 3) ?hd (cs := #[.int .i64 a1_0, .int .i64 a1_1, .int .i64 a1_2, .int .i64 a1_3, .slice A1_4 l1_4.length c1_4]) (t := 41) ?hr ?_; (case hd => rfl); (case hg => rfl); (case hr => first | (go_simp; done) | (go_simp; rfl)); intro gb128 hg w13 hbox hb; have n0_ := Am_ (kB_ (g := gb127) (o := .cells #[.int .i64 a0_0, .int .i64 a0_1, .int .i64 a0_2, .int .i64 a0_3, .slice A0_4 l0_4.length c0_4] 41 (0, 0)) (by (with_reducible repeat (first | refine kN_ ?_ _ | refine kD_ ?_ | refine kA_ ?_ _)); exact BK127.1) hb); have n1_ := Am_ (bT_ (by repeat (first | (with_reducible first | exact HB.1 | apply bA_ | apply bN_ | apply bD_ | refine bS_ ?_ GE127.1) | exact HB.1)) hb); have n2_ := Am_ (hbox); have n3_ := Am_ ((by rw [hg]; exact (bZ_ (by repeat (first | (with_reducible first | exact HB.1 | apply bA_ | apply bN_ | apply bD_ | refine bS_ ?_ GE127.1) | exact HB.1))) : w.heap.size ≤ gb128)); have n4_ := Am_ ((by rw [hg]; exact (bZ_ (by repeat (first | (with_reducible first | exact HB.1 | apply bA_ | apply bN_ | apply bD_ | refine bS_ ?_ GE127.1) | exact HB.1))) : w.heap.size ≤ gb128)); have n5_ := Am_ ((by rw [hg]; exact Nat.ne_of_lt (blk_lt (g := gb127) (o := .cells #[.int .i64 a0_0, .int .i64 a0_1, .int .i64 a0_2, .int .i64 a0_3, .slice A0_4 l0_4.length c0_4] 41 (0, 0)) (by (with_reducible repeat (first | refine kN_ ?_ _ | refine kD_ ?_ | refine kA_ ?_ _)); exact BK127.1)) : gb127 ≠ gb128)); have n6_ := Am_ ((by rw [hg]; exact Nat.ne_of_gt (blk_lt (g := gb127) (o := .cells #[.int .i64 a0_0, .int .i64 a0_1, .int .i64 a0_2, .int .i64 a0_3, .slice A0_4 l0_4.length c0_4] 41 (0, 0)) (by (with_reducible repeat (first | refine kN_ ?_ _ | refine kD_ ?_ | refine kA_ ?_ _)); exact BK127.1)) : gb128 ≠ gb127)); clear BK127 HB; have BK127 := n0_; have HB := n1_; have BK128 := n2_; have GW128 := n3_; have GE128 := n4_; have NB127_128 := n5_; have NB128_127 := n6_; clear n0_ n1_ n2_ n3_ n4_ n5_ n6_ hb hbox hg; have hnb14 := NB127_128.1; have hnc14 := NB128_127.1; have hcz15_0 : w13.cell? ⟨gb127, 0, none⟩ = some (.int .i64 a0_0) := kC_ BK127.1 0; have hcz15_1 : w13.cell? ⟨gb127, 1, none⟩ = some (.int .i64 a0_1) := kC_ BK127.1 1; have hcz15_2 : w13.cell? ⟨gb127, 2, none⟩ = some (.int .i64 a0_2) := kC_ BK127.1 2; have hcz15_3 : w13.cell? ⟨gb127, 3, none⟩ = some (.int .i64 a0_3) := kC_ BK127.1 3; have hcz15_4 : w13.cell? ⟨gb127, 4, none⟩ = some (.slice A0_4 l0_4.length c0_4) := kC_ BK127.1 4; have hfz15_0 := kF_ BK127.1 0; have hfz15_1 := kF_ BK127.1 1; have hfz15_2 := kF_ BK127.1 2; have hfz15_3 := kF_ BK127.1 3; have hfz15_4 := kF_ BK127.1 4) | ((with_reducible refine gate_callee (f := 26) rfl ?_); refine goesL_ (some 12) rfl rfl Try.func26 (by kernel_rfl) rfl #[.agg #[.int .i64 a0_0, .int .i64 a0_1, .int .i64 a0_2, .int .i64 a0_3, .slice A0_4 l0_4.length c0_4], .int .i64 1048576] rfl (by (try simp only [List.map_toArray, List.map_cons, List.map_nil]); first | done | rfl | (simp only [List.length_drop, List.length_take]; rfl)) ?_; (with_reducible refine (laws_szMeshFrame.calls a0_0 a0_1 a0_2 a0_3 _ _ l0_4 1048576 t129 _ ?side1 ?side2 A3.1).mono ?_); (case side1 => repeat (first | exact (Kd.C_below HR0_4.1 HB.1) | (with_reducible refine Kd.C_alloc ?_ _) | (with_reducible refine Kd.C_drewN ?_ _) | (with_reducible refine Kd.C_drew ?_))); (case side2 => exact HC0_4.1); rintro e w16 ⟨rfl, hb⟩; refine ⟨_, rfl, ?_⟩; have n0_ := Am_ (kB_ (g := gb127) (o := .cells #[.int .i64 a0_0, .int .i64 a0_1, .int .i64 a0_2, .int .i64 a0_3, .slice A0_4 l0_4.length c0_4] 41 (0, 0)) (by (with_reducible repeat (first | refine kN_ ?_ _ | refine kD_ ?_ | refine kA_ ?_ _)); exact BK127.1) hb); have n1_ := Am_ (kB_ (g := gb128) (o := .cells #[.int .i64 a1_0, .int .i64 a1_1, .int .i64 a1_2, .int .i64 a1_3, .slice A1_4 l1_4.length c1_4] 41 (0, 0)) (by (with_reducible repeat (first | refine kN_ ?_ _ | refine kD_ ?_ | refine kA_ ?_ _)); exact BK128.1) hb); have n2_ := Am_ (bT_ (by repeat (first | (with_reducible first | exact HB.1 | apply bA_ | apply bN_ | apply bD_ | refine bS_ ?_ GE127.1 | refine bS_ ?_ GE128.1) | exact HB.1)) hb); clear BK127 BK128 HB; have BK127 := n0_; have BK128 := n1_; have HB := n2_; clear n0_ n1_ n2_; (try clear hb); (try clear hb2); (try clear hk); (try clear hi); have hcz17_0 : w16.cell? ⟨gb128, 0, none⟩ = some (.int .i64 a1_0) := kC_ BK128.1 0; have hcz17_1 : w16.cell? ⟨gb128, 1, none⟩ = some (.int .i64 a1_1) := kC_ BK128.1 1; have hcz17_2 : w16.cell? ⟨gb128, 2, none⟩ = some (.int .i64 a1_2) := kC_ BK128.1 2; have hcz17_3 : w16.cell? ⟨gb128, 3, none⟩ = some (.int .i64 a1_3) := kC_ BK128.1 3; have hcz17_4 : w16.cell? ⟨gb128, 4, none⟩ = some (.slice A1_4 l1_4.length c1_4) := kC_ BK128.1 4; have hfz17_0 := kF_ BK128.1 0; have hfz17_1 := kF_ BK128.1 1; have hfz17_2 := kF_ BK128.1 2; have hfz17_3 := kF_ BK128.1 3; have hfz17_4 := kF_ BK128.1 4) | ((with_reducible refine gate_callee (f := 26) rfl ?_); refine goesL_ (some 17) rfl rfl Try.func26 (by kernel_rfl) rfl #[.agg #[.int .i64 a1_0, .int .i64 a1_1, .int .i64 a1_2, .int .i64 a1_3, .slice A1_4 l1_4.length c1_4], .int .i64 t129] rfl (by (try simp only [List.map_toArray, List.map_cons, List.map_nil]); first | done | rfl | (simp only [List.length_drop, List.length_take]; rfl)) ?_; (with_reducible refine (laws_szMeshFrame.calls a1_0 a1_1 a1_2 a1_3 _ _ l1_4 t129 t130 _ ?side1 ?side2 A10.1).mono ?_); (case side1 => repeat (first | exact (Kd.C_below HR1_4.1 HB.1) | (with_reducible refine Kd.C_alloc ?_ _) | (with_reducible refine Kd.C_drewN ?_ _) | (with_reducible refine Kd.C_drew ?_))); (case side2 => exact HC1_4.1); rintro e w18 ⟨rfl, hb⟩; refine ⟨_, rfl, ?_⟩; have n0_ := Am_ (kB_ (g := gb127) (o := .cells #[.int .i64 a0_0, .int .i64 a0_1, .int .i64 a0_2, .int .i64 a0_3, .slice A0_4 l0_4.length c0_4] 41 (0, 0)) (by (with_reducible repeat (first | refine kN_ ?_ _ | refine kD_ ?_ | refine kA_ ?_ _)); exact BK127.1) hb); have n1_ := Am_ (kB_ (g := gb128) (o := .cells #[.int .i64 a1_0, .int .i64 a1_1, .int .i64 a1_2, .int .i64 a1_3, .slice A1_4 l1_4.length c1_4] 41 (0, 0)) (by (with_reducible repeat (first | refine kN_ ?_ _ | refine kD_ ?_ | refine kA_ ?_ _)); exact BK128.1) hb); have n2_ := Am_ (bT_ (by repeat (first | (with_reducible first | exact HB.1 | apply bA_ | apply bN_ | apply bD_ | refine bS_ ?_ GE127.1 | refine bS_ ?_ GE128.1) | exact HB.1)) hb); clear BK127 BK128 HB; have BK127 := n0_; have BK128 := n1_; have HB := n2_; clear n0_ n1_ n2_; (try clear hb); (try clear hb2); (try clear hk); (try clear hi)))
   go_ret
   exact ⟨by first | rfl | (simp [errW_none, errW_some] <;> rfl) | (simp [*, errW_none, errW_some] <;> rfl), by repeat (first | (with_reducible first | exact HB.1 | apply bA_ | apply bN_ | apply bD_ | refine bS_ ?_ GE127.1 | refine bS_ ?_ GE128.1) | exact HB.1)⟩
  ·rw [if_neg c11] at H
   have c11b0 : decide (t130 < 0) = false := decide_eq_false c11
   clear c11
   replace H := Option.bind_eq_some_iff.mp H
   obtain ⟨⟨t131, t132, t133, t134, t135⟩, A190, H⟩ := H
   replace H : ((laws_toMeshFrame.f k a1_0 a1_1 a1_2 a1_3 l1_4).bind fun bt138 => ((spec_EqualMeshFrames.f t131 t132 t133 t134 t135 bt138.1 bt138.2.1 bt138.2.2.1 bt138.2.2.2.1 bt138.2.2.2.2).bind fun t145 => ((laws_toMeshFrame.f k a0_0 a0_1 a0_2 a0_3 l0_4).bind fun bt146 => ((laws_toMeshFrame.f k a1_0 a1_1 a1_2 a1_3 l1_4).bind fun bt154 => ((impl_EqualMeshFrames.f k bt146.1 bt146.2.1 bt146.2.2.1 bt146.2.2.2.1 bt146.2.2.2.2 bt154.1 bt154.2.1 bt154.2.2.1 bt154.2.2.2.1 bt154.2.2.2.2).bind fun t162 => (if (t162 != t145) = true then (some false) else ((laws_toMeshFrame.f k a0_0 a0_1 a0_2 a0_3 l0_4).bind fun bt163 => ((laws_eqMeshFrame.f k bt146.1 bt146.2.1 bt146.2.2.1 bt146.2.2.2.1 bt146.2.2.2.2 bt163.1 bt163.2.1 bt163.2.2.1 bt163.2.2.2.1 bt163.2.2.2.2).bind fun t170 => (if t170 = true then ((laws_toMeshFrame.f k a1_0 a1_1 a1_2 a1_3 l1_4).bind fun bt171 => ((laws_eqMeshFrame.f k bt154.1 bt154.2.1 bt154.2.2.1 bt154.2.2.2.1 bt154.2.2.2.2 bt171.1 bt171.2.1 bt171.2.2.1 bt171.2.2.2.1 bt171.2.2.2.2).bind fun t178 => (if t178 = true then (some true) else (some false)))) else (some false)))))))))) = some r := H
   have A19 := Am_ A190
   clear A190
   replace H := Option.bind_eq_some_iff.mp H
   obtain ⟨⟨t138, t139, t140, t141, t142⟩, A200, H⟩ := H
   replace H : ((spec_EqualMeshFrames.f t131 t132 t133 t134 t135 t138 t139 t140 t141 t142).bind fun t145 => ((laws_toMeshFrame.f k a0_0 a0_1 a0_2 a0_3 l0_4).bind fun bt146 => ((laws_toMeshFrame.f k a1_0 a1_1 a1_2 a1_3 l1_4).bind fun bt154 => ((impl_EqualMeshFrames.f k bt146.1 bt146.2.1 bt146.2.2.1 bt146.2.2.2.1 bt146.2.2.2.2 bt154.1 bt154.2.1 bt154.2.2.1 bt154.2.2.2.1 bt154.2.2.2.2).bind fun t162 => (if (t162 != t145) = true then (some false) else ((laws_toMeshFrame.f k a0_0 a0_1 a0_2 a0_3 l0_4).bind fun bt163 => ((laws_eqMeshFrame.f k bt146.1 bt146.2.1 bt146.2.2.1 bt146.2.2.2.1 bt146.2.2.2.2 bt163.1 bt163.2.1 bt163.2.2.1 bt163.2.2.2.1 bt163.2.2.2.2).bind fun t170 => (if t170 = true then ((laws_toMeshFrame.f k a1_0 a1_1 a1_2 a1_3 l1_4).bind fun bt171 => ((laws_eqMeshFrame.f k bt154.1 bt154.2.1 bt154.2.2.1 bt154.2.2.2.1 bt154.2.2.2.2 bt171.1 bt171.2.1 bt171.2.2.1 bt171.2.2.2.1 bt171.2.2.2.2).bind fun t178 => (if t178 = true then (some true) else (some false)))) else (some false))))))))) = some r := H
   have A20 := Am_ A200
   clear A200
   replace H := Option.bind_eq_some_iff.mp H
   obtain ⟨t145, A210, H⟩ := H
   replace H : ((laws_toMeshFrame.f k a0_0 a0_1 a0_2 a0_3 l0_4).bind fun bt146 => ((laws_toMeshFrame.f k a1_0 a1_1 a1_2 a1_3 l1_4).bind fun bt154 => ((impl_EqualMeshFrames.f k bt146.1 bt146.2.1 bt146.2.2.1 bt146.2.2.2.1 bt146.2.2.2.2 bt154.1 bt154.2.1 bt154.2.2.1 bt154.2.2.2.1 bt154.2.2.2.2).bind fun t162 => (if (t162 != t145) = true then (some false) else ((laws_toMeshFrame.f k a0_0 a0_1 a0_2 a0_3 l0_4).bind fun bt163 => ((laws_eqMeshFrame.f k bt146.1 bt146.2.1 bt146.2.2.1 bt146.2.2.2.1 bt146.2.2.2.2 bt163.1 bt163.2.1 bt163.2.2.1 bt163.2.2.2.1 bt163.2.2.2.2).bind fun t170 => (if t170 = true then ((laws_toMeshFrame.f k a1_0 a1_1 a1_2 a1_3 l1_4).bind fun bt171 => ((laws_eqMeshFrame.f k bt154.1 bt154.2.1 bt154.2.2.1 bt154.2.2.2.1 bt154.2.2.2.2 bt171.1 bt171.2.1 bt171.2.2.1 bt171.2.2.2.1 bt171.2.2.2.2).bind fun t178 => (if t178 = true then (some true) else (some false)))) else (some false)))))))) = some r := H
   have A21 := Am_ A210
   clear A210
   replace H := Option.bind_eq_some_iff.mp H
   obtain ⟨⟨t146, t147, t148, t149, t150⟩, A220, H⟩ := H
   replace H : ((laws_toMeshFrame.f k a1_0 a1_1 a1_2 a1_3 l1_4).bind fun bt154 => ((impl_EqualMeshFrames.f k t146 t147 t148 t149 t150 bt154.1 bt154.2.1 bt154.2.2.1 bt154.2.2.2.1 bt154.2.2.2.2).bind fun t162 => (if (t162 != t145) = true then (some false) else ((laws_toMeshFrame.f k a0_0 a0_1 a0_2 a0_3 l0_4).bind fun bt163 => ((laws_eqMeshFrame.f k t146 t147 t148 t149 t150 bt163.1 bt163.2.1 bt163.2.2.1 bt163.2.2.2.1 bt163.2.2.2.2).bind fun t170 => (if t170 = true then ((laws_toMeshFrame.f k a1_0 a1_1 a1_2 a1_3 l1_4).bind fun bt171 => ((laws_eqMeshFrame.f k bt154.1 bt154.2.1 bt154.2.2.1 bt154.2.2.2.1 bt154.2.2.2.2 bt171.1 bt171.2.1 bt171.2.2.1 bt171.2.2.2.1 bt171.2.2.2.2).bind fun t178 => (if t178 = true then (some true) else (some false)))) else (some false))))))) = some r := H
   have A22 := Am_ A220
   clear A220
   replace H := Option.bind_eq_some_iff.mp H
   obtain ⟨⟨t154, t155, t156, t157, t158⟩, A230, H⟩ := H
   replace H : ((impl_EqualMeshFrames.f k t146 t147 t148 t149 t150 t154 t155 t156 t157 t158).bind fun t162 => (if (t162 != t145) = true then (some false) else ((laws_toMeshFrame.f k a0_0 a0_1 a0_2 a0_3 l0_4).bind fun bt163 => ((laws_eqMeshFrame.f k t146 t147 t148 t149 t150 bt163.1 bt163.2.1 bt163.2.2.1 bt163.2.2.2.1 bt163.2.2.2.2).bind fun t170 => (if t170 = true then ((laws_toMeshFrame.f k a1_0 a1_1 a1_2 a1_3 l1_4).bind fun bt171 => ((laws_eqMeshFrame.f k t154 t155 t156 t157 t158 bt171.1 bt171.2.1 bt171.2.2.1 bt171.2.2.2.1 bt171.2.2.2.2).bind fun t178 => (if t178 = true then (some true) else (some false)))) else (some false)))))) = some r := H
   have A23 := Am_ A230
   clear A230
   replace H := Option.bind_eq_some_iff.mp H
   obtain ⟨t162, A240, H⟩ := H
   replace H : (if (t162 != t145) = true then (some false) else ((laws_toMeshFrame.f k a0_0 a0_1 a0_2 a0_3 l0_4).bind fun bt163 => ((laws_eqMeshFrame.f k t146 t147 t148 t149 t150 bt163.1 bt163.2.1 bt163.2.2.1 bt163.2.2.2.1 bt163.2.2.2.2).bind fun t170 => (if t170 = true then ((laws_toMeshFrame.f k a1_0 a1_1 a1_2 a1_3 l1_4).bind fun bt171 => ((laws_eqMeshFrame.f k t154 t155 t156 t157 t158 bt171.1 bt171.2.1 bt171.2.2.1 bt171.2.2.2.1 bt171.2.2.2.2).bind fun t178 => (if t178 = true then (some true) else (some false)))) else (some false))))) = some r := H
   have A24 := Am_ A240
   clear A240
   by_cases c25 : (t162 != t145) = true
   ·rw [if_pos c25] at H
    have c25b0 : (t162 != t145) = true := c25
    (try (have c25b1 : decide (t162 = t145) = false := by simpa using c25))
    (try (have c25b2 : (t162 == t145) = false := by simpa using c25))
    (try (have c25b3 : ¬ (t162 = t145) := by simpa using c25))
    clear c25
    obtain rfl := Option.some.inj H
    go_enter Try.func6, Try.ntmps6
    try go_wp2_with (first | ((with_reducible refine gate_dst (N := 2) rfl ?_); refine box_event ?hg (N := 2) ?hd (cs := #[.int .i64 a0_0, .int .i64 a0_1, .int .i64 a0_2, .int .i64 a0_3, .slice A0_4 l0_4.length c0_4]) (t := 41) ?hr ?_; (case hd => rfl); (case hg => rfl); (case hr => first | (go_simp; done) | (go_simp; rfl)); intro gb127 hg w26 hbox hb; have n0_ := Am_ (bT_ (by repeat (first | (with_reducible first | exact HB.1 | apply bA_ | apply bN_ | apply bD_) | exact HB.1)) hb); have n1_ := Am_ (hbox); have n2_ := Am_ ((by rw [hg]; exact (bZ_ (by repeat (first | (with_reducible first | exact HB.1 | apply bA_ | apply bN_ | apply bD_) | exact HB.1))) : w.heap.size ≤ gb127)); have n3_ := Am_ ((by rw [hg]; exact (bZ_ (by repeat (first | (with_reducible first | exact HB.1 | apply bA_ | apply bN_ | apply bD_) | exact HB.1))) : w.heap.size ≤ gb127)); clear HB; have HB := n0_; have BK127 := n1_; have GW127 := n2_; have GE127 := n3_; clear n0_ n1_ n2_ n3_ hb hbox hg) | ((with_reducible refine gate_dst (N := 3) rfl ?_); refine box_event ?hg (N := 3) ?hd (cs := #[.int .i64 a1_0, .int .i64 a1_1, .int .i64 a1_2, .int .i64 a1_3, .slice A1_4 l1_4.length c1_4]) (t := 41) ?hr ?_; (case hd => rfl); (case hg => rfl); (case hr => first | (go_simp; done) | (go_simp; rfl)); intro gb128 hg w27 hbox hb; have n0_ := Am_ (kB_ (g := gb127) (o := .cells #[.int .i64 a0_0, .int .i64 a0_1, .int .i64 a0_2, .int .i64 a0_3, .slice A0_4 l0_4.length c0_4] 41 (0, 0)) (by (with_reducible repeat (first | refine kN_ ?_ _ | refine kD_ ?_ | refine kA_ ?_ _)); exact BK127.1) hb); have n1_ := Am_ (bT_ (by repeat (first | (with_reducible first | exact HB.1 | apply bA_ | apply bN_ | apply bD_ | refine bS_ ?_ GE127.1) | exact HB.1)) hb); have n2_ := Am_ (hbox); have n3_ := Am_ ((by rw [hg]; exact (bZ_ (by repeat (first | (with_reducible first | exact HB.1 | apply bA_ | apply bN_ | apply bD_ | refine bS_ ?_ GE127.1) | exact HB.1))) : w.heap.size ≤ gb128)); have n4_ := Am_ ((by rw [hg]; exact (bZ_ (by repeat (first | (with_reducible first | exact HB.1 | apply bA_ | apply bN_ | apply bD_ | refine bS_ ?_ GE127.1) | exact HB.1))) : w.heap.size ≤ gb128)); have n5_ := Am_ ((by rw [hg]; exact Nat.ne_of_lt (blk_lt (g := gb127) (o := .cells #[.int .i64 a0_0, .int .i64 a0_1, .int .i64 a0_2, .int .i64 a0_3, .slice A0_4 l0_4.length c0_4] 41 (0, 0)) (by (with_reducible repeat (first | refine kN_ ?_ _ | refine kD_ ?_ | refine kA_ ?_ _)); exact BK127.1)) : gb127 ≠ gb128)); have n6_ := Am_ ((by rw [hg]; exact Nat.ne_of_gt (blk_lt (g := gb127) (o := .cells #[.int .i64 a0_0, .int .i64 a0_1, .int .i64 a0_2, .int .i64 a0_3, .slice A0_4 l0_4.length c0_4] 41 (0, 0)) (by (with_reducible repeat (first | refine kN_ ?_ _ | refine kD_ ?_ | refine kA_ ?_ _)); exact BK127.1)) : gb128 ≠ gb127)); clear BK127 HB; have BK127 := n0_; have HB := n1_; have BK128 := n2_; have GW128 := n3_; have GE128 := n4_; have NB127_128 := n5_; have NB128_127 := n6_; clear n0_ n1_ n2_ n3_ n4_ n5_ n6_ hb hbox hg; have hnb28 := NB127_128.1; have hnc28 := NB128_127.1; have hcz29_0 : w27.cell? ⟨gb127, 0, none⟩ = some (.int .i64 a0_0) := kC_ BK127.1 0; have hcz29_1 : w27.cell? ⟨gb127, 1, none⟩ = some (.int .i64 a0_1) := kC_ BK127.1 1; have hcz29_2 : w27.cell? ⟨gb127, 2, none⟩ = some (.int .i64 a0_2) := kC_ BK127.1 2; have hcz29_3 : w27.cell? ⟨gb127, 3, none⟩ = some (.int .i64 a0_3) := kC_ BK127.1 3; have hcz29_4 : w27.cell? ⟨gb127, 4, none⟩ = some (.slice A0_4 l0_4.length c0_4) := kC_ BK127.1 4; have hfz29_0 := kF_ BK127.1 0; have hfz29_1 := kF_ BK127.1 1; have hfz29_2 := kF_ BK127.1 2; have hfz29_3 := kF_ BK127.1 3; have hfz29_4 := kF_ BK127.1 4) | ((with_reducible refine gate_callee (f := 26) rfl ?_); refine goesL_ (some 12) rfl rfl Try.func26 (by kernel_rfl) rfl #[.agg #[.int .i64 a0_0, .int .i64 a0_1, .int .i64 a0_2, .int .i64 a0_3, .slice A0_4 l0_4.length c0_4], .int .i64 1048576] rfl (by (try simp only [List.map_toArray, List.map_cons, List.map_nil]); first | done | rfl | (simp only [List.length_drop, List.length_take]; rfl)) ?_; (with_reducible refine (laws_szMeshFrame.calls a0_0 a0_1 a0_2 a0_3 _ _ l0_4 1048576 t129 _ ?side1 ?side2 A3.1).mono ?_); (case side1 => repeat (first | exact (Kd.C_below HR0_4.1 HB.1) | (with_reducible refine Kd.C_alloc ?_ _) | (with_reducible refine Kd.C_drewN ?_ _) | (with_reducible refine Kd.C_drew ?_))); (case side2 => exact HC0_4.1); rintro e w30 ⟨rfl, hb⟩; refine ⟨_, rfl, ?_⟩; have n0_ := Am_ (kB_ (g := gb127) (o := .cells #[.int .i64 a0_0, .int .i64 a0_1, .int .i64 a0_2, .int .i64 a0_3, .slice A0_4 l0_4.length c0_4] 41 (0, 0)) (by (with_reducible repeat (first | refine kN_ ?_ _ | refine kD_ ?_ | refine kA_ ?_ _)); exact BK127.1) hb); have n1_ := Am_ (kB_ (g := gb128) (o := .cells #[.int .i64 a1_0, .int .i64 a1_1, .int .i64 a1_2, .int .i64 a1_3, .slice A1_4 l1_4.length c1_4] 41 (0, 0)) (by (with_reducible repeat (first | refine kN_ ?_ _ | refine kD_ ?_ | refine kA_ ?_ _)); exact BK128.1) hb); have n2_ := Am_ (bT_ (by repeat (first | (with_reducible first | exact HB.1 | apply bA_ | apply bN_ | apply bD_ | refine bS_ ?_ GE127.1 | refine bS_ ?_ GE128.1) | exact HB.1)) hb); clear BK127 BK128 HB; have BK127 := n0_; have BK128 := n1_; have HB := n2_; clear n0_ n1_ n2_; (try clear hb); (try clear hb2); (try clear hk); (try clear hi); have hcz31_0 : w30.cell? ⟨gb128, 0, none⟩ = some (.int .i64 a1_0) := kC_ BK128.1 0; have hcz31_1 : w30.cell? ⟨gb128, 1, none⟩ = some (.int .i64 a1_1) := kC_ BK128.1 1; have hcz31_2 : w30.cell? ⟨gb128, 2, none⟩ = some (.int .i64 a1_2) := kC_ BK128.1 2; have hcz31_3 : w30.cell? ⟨gb128, 3, none⟩ = some (.int .i64 a1_3) := kC_ BK128.1 3; have hcz31_4 : w30.cell? ⟨gb128, 4, none⟩ = some (.slice A1_4 l1_4.length c1_4) := kC_ BK128.1 4; have hfz31_0 := kF_ BK128.1 0; have hfz31_1 := kF_ BK128.1 1; have hfz31_2 := kF_ BK128.1 2; have hfz31_3 := kF_ BK128.1 3; have hfz31_4 := kF_ BK128.1 4) | ((with_reducible refine gate_callee (f := 26) rfl ?_); refine goesL_ (some 17) rfl rfl Try.func26 (by kernel_rfl) rfl #[.agg #[.int .i64 a1_0, .int .i64 a1_1, .int .i64 a1_2, .int .i64 a1_3, .slice A1_4 l1_4.length c1_4], .int .i64 t129] rfl (by (try simp only [List.map_toArray, List.map_cons, List.map_nil]); first | done | rfl | (simp only [List.length_drop, List.length_take]; rfl)) ?_; (with_reducible refine (laws_szMeshFrame.calls a1_0 a1_1 a1_2 a1_3 _ _ l1_4 t129 t130 _ ?side1 ?side2 A10.1).mono ?_); (case side1 => repeat (first | exact (Kd.C_below HR1_4.1 HB.1) | (with_reducible refine Kd.C_alloc ?_ _) | (with_reducible refine Kd.C_drewN ?_ _) | (with_reducible refine Kd.C_drew ?_))); (case side2 => exact HC1_4.1); rintro e w32 ⟨rfl, hb⟩; refine ⟨_, rfl, ?_⟩; have n0_ := Am_ (kB_ (g := gb127) (o := .cells #[.int .i64 a0_0, .int .i64 a0_1, .int .i64 a0_2, .int .i64 a0_3, .slice A0_4 l0_4.length c0_4] 41 (0, 0)) (by (with_reducible repeat (first | refine kN_ ?_ _ | refine kD_ ?_ | refine kA_ ?_ _)); exact BK127.1) hb); have n1_ := Am_ (kB_ (g := gb128) (o := .cells #[.int .i64 a1_0, .int .i64 a1_1, .int .i64 a1_2, .int .i64 a1_3, .slice A1_4 l1_4.length c1_4] 41 (0, 0)) (by (with_reducible repeat (first | refine kN_ ?_ _ | refine kD_ ?_ | refine kA_ ?_ _)); exact BK128.1) hb); have n2_ := Am_ (bT_ (by repeat (first | (with_reducible first | exact HB.1 | apply bA_ | apply bN_ | apply bD_ | refine bS_ ?_ GE127.1 | refine bS_ ?_ GE128.1) | exact HB.1)) hb); clear BK127 BK128 HB; have BK127 := n0_; have BK128 := n1_; have HB := n2_; clear n0_ n1_ n2_; (try clear hb); (try clear hb2); (try clear hk); (try clear hi)))
    have n0_ := Am_ (kD_ BK127.1)
    have n1_ := Am_ (kD_ BK128.1)
    have n2_ := Am_ (bD_ HB.1)
    clear BK127
    clear BK128
    clear HB
    have BK127 := n0_
    have BK128 := n1_
    have HB := n2_
    clear n0_ n1_ n2_
    refine start_ (n := 6) (S := fun w' => w'.cell? ⟨gb127, 0, none⟩ = some (.int .i64 a0_0) ∧ w'.cell? ⟨gb127, 1, none⟩ = some (.int .i64 a0_1) ∧ w'.cell? ⟨gb127, 2, none⟩ = some (.int .i64 a0_2) ∧ w'.cell? ⟨gb127, 3, none⟩ = some (.int .i64 a0_3) ∧ w'.cell? ⟨gb127, 4, none⟩ = some (.slice A0_4 l0_4.length c0_4) ∧ w'.cell? ⟨gb128, 0, none⟩ = some (.int .i64 a1_0) ∧ w'.cell? ⟨gb128, 1, none⟩ = some (.int .i64 a1_1) ∧ w'.cell? ⟨gb128, 2, none⟩ = some (.int .i64 a1_2) ∧ w'.cell? ⟨gb128, 3, none⟩ = some (.int .i64 a1_3) ∧ w'.cell? ⟨gb128, 4, none⟩ = some (.slice A1_4 l1_4.length c1_4)) (ds := []) #[false, false, false, false, false, false] (by kernel_rfl) rfl rfl ⟨kC_ BK127.1 0, kC_ BK127.1 1, kC_ BK127.1 2, kC_ BK127.1 3, kC_ BK127.1 4, kC_ BK128.1 0, kC_ BK128.1 1, kC_ BK128.1 2, kC_ BK128.1 3, kC_ BK128.1 4⟩ (fun hHeld => ?_)
    generalize w32.drew = w33 at BK127 BK128 HB hHeld ⊢
    refine take_ (i := 0) (N := some 20) (v := ?_) (a' := ?_) #[true, false, false, false, false, false] rfl rfl (by kernel_rfl) (fun _ _ _ h => h) (Or.inl ⟨by rfl, ?_⟩) hHeld ?_ ?_
    rotate_left
    ·rintro w' ⟨s0, s1, s2, s3, s4, s5, s6, s7, s8, s9⟩
     go_simp
     with_reducible rfl
    rotate_left
    ·simp only [Act.put, List.setIfInBounds_toArray, List.set_cons_zero, List.set_cons_succ, i64_w, i32_w]
     rfl
    refine take_ (i := 2) (N := some 22) (v := ?_) (a' := ?_) #[true, false, true, false, false, false] rfl rfl (by kernel_rfl) (fun _ _ _ h => h) (Or.inl ⟨by rfl, ?_⟩) hHeld ?_ ?_
    rotate_left
    ·rintro w' ⟨s0, s1, s2, s3, s4, s5, s6, s7, s8, s9⟩
     go_simp
     with_reducible rfl
    rotate_left
    ·simp only [Act.put, List.setIfInBounds_toArray, List.set_cons_zero, List.set_cons_succ, i64_w, i32_w]
     rfl
    refine one_ (i := 1) (N := some 21) #[true, true, true, false, false, false] rfl rfl (by kernel_rfl) (by decide) (fun K hK => ?_)
    refine goes_ Try.func28 (by kernel_rfl) rfl #[.agg #[.int .i64 a0_0, .int .i64 a0_1, .int .i64 a0_2, .int .i64 a0_3, .slice A0_4 l0_4.length c0_4]] (by rfl) rfl rfl (by (try simp only [List.map_toArray, List.map_cons, List.map_nil]); first | done | rfl | (simp only [List.length_drop, List.length_take]; rfl)) ?_
    with_reducible refine (laws_toMeshFrame.calls k a0_0 a0_1 a0_2 a0_3 _ _ l0_4 t131 t132 t133 t134 t135 _ ?side1 ?side2 A19.1).mono ?_
    (case side1 => repeat (first | exact (Kd.C_below HR0_4.1 HB.1) | (with_reducible refine Kd.C_alloc ?_ _) | (with_reducible refine Kd.C_drewN ?_ _) | (with_reducible refine Kd.C_drew ?_)))
    (case side2 => exact HC0_4.1)
    rintro e w34 ⟨v136, rfl, ho0, hb⟩
    refine ⟨_, rfl, ?_⟩
    have n0_ := Am_ (Kd.R_lower ho0 (bZ_ (by repeat (first | (with_reducible first | exact HB.1 | apply bA_ | apply bN_ | apply bD_ | refine bS_ ?_ GE127.1 | refine bS_ ?_ GE128.1) | exact HB.1))))
    have n1_ := Am_ (kB_ (g := gb127) (o := .cells #[.int .i64 a0_0, .int .i64 a0_1, .int .i64 a0_2, .int .i64 a0_3, .slice A0_4 l0_4.length c0_4] 41 (0, 0)) (by (with_reducible repeat (first | refine kN_ ?_ _ | refine kD_ ?_ | refine kA_ ?_ _)); exact BK127.1) hb)
    have n2_ := Am_ (kB_ (g := gb128) (o := .cells #[.int .i64 a1_0, .int .i64 a1_1, .int .i64 a1_2, .int .i64 a1_3, .slice A1_4 l1_4.length c1_4] 41 (0, 0)) (by (with_reducible repeat (first | refine kN_ ?_ _ | refine kD_ ?_ | refine kA_ ?_ _)); exact BK128.1) hb)
    have n3_ := Am_ (bT_ (by repeat (first | (with_reducible first | exact HB.1 | apply bA_ | apply bN_ | apply bD_ | refine bS_ ?_ GE127.1 | refine bS_ ?_ GE128.1) | exact HB.1)) hb)
    clear BK127
    clear BK128
    clear HB
    have HO137 := n0_
    have BK127 := n1_
    have BK128 := n2_
    have HB := n3_
    clear n0_ n1_ n2_ n3_
    (try clear hb)
    (try clear hb2)
    (try clear hk)
    (try clear hi)
    (try clear ho0)
    refine hK.out _ _ ⟨kC_ BK127.1 0, kC_ BK127.1 1, kC_ BK127.1 2, kC_ BK127.1 3, kC_ BK127.1 4, kC_ BK128.1 0, kC_ BK128.1 1, kC_ BK128.1 2, kC_ BK128.1 3, kC_ BK128.1 4⟩ (fun hHeld => ?_)
    clear hK K
    refine norm_ (a' := ?_) ?_ ?_
    rotate_left
    ·show Act.put _ (some 21) _ = _
     simp only [Act.put, List.setIfInBounds_toArray, List.set_cons_zero, List.set_cons_succ, i64_w, i32_w]
     rfl
    refine one_ (i := 3) (N := some 23) #[true, true, true, true, false, false] rfl rfl (by kernel_rfl) (by decide) (fun K hK => ?_)
    refine goes_ Try.func28 (by kernel_rfl) rfl #[.agg #[.int .i64 a1_0, .int .i64 a1_1, .int .i64 a1_2, .int .i64 a1_3, .slice A1_4 l1_4.length c1_4]] (by rfl) rfl rfl (by (try simp only [List.map_toArray, List.map_cons, List.map_nil]); first | done | rfl | (simp only [List.length_drop, List.length_take]; rfl)) ?_
    with_reducible refine (laws_toMeshFrame.calls k a1_0 a1_1 a1_2 a1_3 _ _ l1_4 t138 t139 t140 t141 t142 _ ?side1 ?side2 A20.1).mono ?_
    (case side1 => repeat (first | exact (Kd.C_below HR1_4.1 HB.1) | (with_reducible refine Kd.C_alloc ?_ _) | (with_reducible refine Kd.C_drewN ?_ _) | (with_reducible refine Kd.C_drew ?_)))
    (case side2 => exact HC1_4.1)
    rintro e w35 ⟨v143, rfl, ho0, hb⟩
    refine ⟨_, rfl, ?_⟩
    have n0_ := Am_ (Kd.R_elder' (by (with_reducible repeat (first | apply rA_ | apply rN_ | apply rD_)); exact HO137.1) (Kd.R_base ho0) hb)
    have n1_ := Am_ (Kd.R_lower (Kd.R_new' ho0 (Kd.R_lt (by (with_reducible repeat (first | apply rA_ | apply rN_ | apply rD_)); exact HO137.1))) (bZ_ (by repeat (first | (with_reducible first | exact HB.1 | apply bA_ | apply bN_ | apply bD_ | refine bS_ ?_ GE127.1 | refine bS_ ?_ GE128.1) | exact HB.1))))
    have n2_ := Am_ (kB_ (g := gb127) (o := .cells #[.int .i64 a0_0, .int .i64 a0_1, .int .i64 a0_2, .int .i64 a0_3, .slice A0_4 l0_4.length c0_4] 41 (0, 0)) (by (with_reducible repeat (first | refine kN_ ?_ _ | refine kD_ ?_ | refine kA_ ?_ _)); exact BK127.1) hb)
    have n3_ := Am_ (kB_ (g := gb128) (o := .cells #[.int .i64 a1_0, .int .i64 a1_1, .int .i64 a1_2, .int .i64 a1_3, .slice A1_4 l1_4.length c1_4] 41 (0, 0)) (by (with_reducible repeat (first | refine kN_ ?_ _ | refine kD_ ?_ | refine kA_ ?_ _)); exact BK128.1) hb)
    have n4_ := Am_ (bT_ (by repeat (first | (with_reducible first | exact HB.1 | apply bA_ | apply bN_ | apply bD_ | refine bS_ ?_ GE127.1 | refine bS_ ?_ GE128.1) | exact HB.1)) hb)
    clear HO137
    clear BK127
    clear BK128
    clear HB
    have HO137 := n0_
    have HO144 := n1_
    have BK127 := n2_
    have BK128 := n3_
    have HB := n4_
    clear n0_ n1_ n2_ n3_ n4_
    (try clear hb)
    (try clear hb2)
    (try clear hk)
    (try clear hi)
    (try clear ho0)
    obtain ⟨Ao36, co36, eo36⟩ := Kd.R_slice HO137.1
    (first | subst eo36 | (injection eo36 with f1_ f2_ f3_; have f4_ := f1_.symm; have f5_ := f3_.symm; clear f1_ f2_ f3_; subst f4_; subst f5_))
    obtain ⟨Ao37, co37, eo37⟩ := Kd.R_slice HO144.1
    (first | subst eo37 | (injection eo37 with f1_ f2_ f3_; have f4_ := f1_.symm; have f5_ := f3_.symm; clear f1_ f2_ f3_; subst f4_; subst f5_))
    refine hK.out _ _ ⟨kC_ BK127.1 0, kC_ BK127.1 1, kC_ BK127.1 2, kC_ BK127.1 3, kC_ BK127.1 4, kC_ BK128.1 0, kC_ BK128.1 1, kC_ BK128.1 2, kC_ BK128.1 3, kC_ BK128.1 4⟩ (fun hHeld => ?_)
    clear hK K
    refine norm_ (a' := ?_) ?_ ?_
    rotate_left
    ·show Act.put _ (some 23) _ = _
     simp only [Act.put, List.setIfInBounds_toArray, List.set_cons_zero, List.set_cons_succ, i64_w, i32_w]
     rfl
    refine one_ (i := 4) (N := some 24) #[true, true, true, true, true, false] rfl rfl (by kernel_rfl) (by decide) (fun K hK => ?_)
    refine goes_ Try.func27 (by kernel_rfl) rfl #[.agg #[.int .i64 t131, .int .i64 t132, .int .i64 t133, .int .i64 t134, .slice Ao36 t135.length co36], .agg #[.int .i64 t138, .int .i64 t139, .int .i64 t140, .int .i64 t141, .slice Ao37 t142.length co37]] (by rfl) rfl rfl (by (try simp only [List.map_toArray, List.map_cons, List.map_nil]); first | done | rfl | (simp only [List.length_drop, List.length_take]; rfl)) ?_
    with_reducible refine (spec_EqualMeshFrames.calls t131 t132 t133 t134 _ _ t135 t138 t139 t140 t141 _ _ t142 t145 _ ?side1 ?side2 ?side3 ?side4 A21.1).mono ?_
    (case side1 => repeat (first | exact (Kd.R_reads' HO137.1).2.2 | (with_reducible refine Kd.C_alloc ?_ _) | (with_reducible refine Kd.C_drewN ?_ _) | (with_reducible refine Kd.C_drew ?_)))
    (case side2 => exact (Kd.R_reads' HO137.1).2.1)
    (case side3 => repeat (first | exact (Kd.R_reads' HO144.1).2.2 | (with_reducible refine Kd.C_alloc ?_ _) | (with_reducible refine Kd.C_drewN ?_ _) | (with_reducible refine Kd.C_drew ?_)))
    (case side4 => exact (Kd.R_reads' HO144.1).2.1)
    rintro e w38 ⟨rfl, hb⟩
    refine ⟨_, rfl, ?_⟩
    have n0_ := Am_ (Kd.R_below (by (with_reducible repeat (first | apply rA_ | apply rN_ | apply rD_)); exact HO137.1) hb)
    have n1_ := Am_ (Kd.R_below (by (with_reducible repeat (first | apply rA_ | apply rN_ | apply rD_)); exact HO144.1) hb)
    have n2_ := Am_ (kB_ (g := gb127) (o := .cells #[.int .i64 a0_0, .int .i64 a0_1, .int .i64 a0_2, .int .i64 a0_3, .slice A0_4 l0_4.length c0_4] 41 (0, 0)) (by (with_reducible repeat (first | refine kN_ ?_ _ | refine kD_ ?_ | refine kA_ ?_ _)); exact BK127.1) hb)
    have n3_ := Am_ (kB_ (g := gb128) (o := .cells #[.int .i64 a1_0, .int .i64 a1_1, .int .i64 a1_2, .int .i64 a1_3, .slice A1_4 l1_4.length c1_4] 41 (0, 0)) (by (with_reducible repeat (first | refine kN_ ?_ _ | refine kD_ ?_ | refine kA_ ?_ _)); exact BK128.1) hb)
    have n4_ := Am_ (bT_ (by repeat (first | (with_reducible first | exact HB.1 | apply bA_ | apply bN_ | apply bD_ | refine bS_ ?_ GE127.1 | refine bS_ ?_ GE128.1) | exact HB.1)) hb)
    clear HO137
    clear HO144
    clear BK127
    clear BK128
    clear HB
    have HO137 := n0_
    have HO144 := n1_
    have BK127 := n2_
    have BK128 := n3_
    have HB := n4_
    clear n0_ n1_ n2_ n3_ n4_
    (try clear hb)
    (try clear hb2)
    (try clear hk)
    (try clear hi)
    refine hK.out _ _ ⟨kC_ BK127.1 0, kC_ BK127.1 1, kC_ BK127.1 2, kC_ BK127.1 3, kC_ BK127.1 4, kC_ BK128.1 0, kC_ BK128.1 1, kC_ BK128.1 2, kC_ BK128.1 3, kC_ BK128.1 4⟩ (fun hHeld => ?_)
    clear hK K
    refine norm_ (a' := ?_) ?_ ?_
    rotate_left
    ·show Act.put _ (some 24) _ = _
     simp only [Act.put, List.setIfInBounds_toArray, List.set_cons_zero, List.set_cons_succ, i64_w, i32_w]
     rfl
    refine pure_ (i := 5) (N := some 6) (v := ?_) (a' := ?_) #[true, true, true, true, true, true] rfl rfl (by kernel_rfl) (fun _ _ _ h => h) (Or.inl ⟨by rfl, ?_⟩) ?_ ?_
    rotate_left
    ·intro w'
     go_simp
     with_reducible rfl
    rotate_left
    ·simp only [Act.put, List.setIfInBounds_toArray, List.set_cons_zero, List.set_cons_succ, i64_w, i32_w]
     rfl
    refine done_ (by kernel_rfl) ?_
    have hcz39_0 : w38.cell? ⟨gb127, 0, none⟩ = some (.int .i64 a0_0) := kC_ BK127.1 0
    have hcz39_1 : w38.cell? ⟨gb127, 1, none⟩ = some (.int .i64 a0_1) := kC_ BK127.1 1
    have hcz39_2 : w38.cell? ⟨gb127, 2, none⟩ = some (.int .i64 a0_2) := kC_ BK127.1 2
    have hcz39_3 : w38.cell? ⟨gb127, 3, none⟩ = some (.int .i64 a0_3) := kC_ BK127.1 3
    have hcz39_4 : w38.cell? ⟨gb127, 4, none⟩ = some (.slice A0_4 l0_4.length c0_4) := kC_ BK127.1 4
    have hfz39_0 := kF_ BK127.1 0
    have hfz39_1 := kF_ BK127.1 1
    have hfz39_2 := kF_ BK127.1 2
    have hfz39_3 := kF_ BK127.1 3
    have hfz39_4 := kF_ BK127.1 4
    try go_wp2_with (first | ((with_reducible refine gate_callee (f := 28) rfl ?_); refine goesL_ (some 26) rfl rfl Try.func28 (by kernel_rfl) rfl #[.agg #[.int .i64 a0_0, .int .i64 a0_1, .int .i64 a0_2, .int .i64 a0_3, .slice A0_4 l0_4.length c0_4]] rfl (by (try simp only [List.map_toArray, List.map_cons, List.map_nil]); first | done | rfl | (simp only [List.length_drop, List.length_take]; rfl)) ?_; (with_reducible refine (laws_toMeshFrame.calls k a0_0 a0_1 a0_2 a0_3 _ _ l0_4 t146 t147 t148 t149 t150 _ ?side1 ?side2 A22.1).mono ?_); (case side1 => repeat (first | exact (Kd.C_below HR0_4.1 HB.1) | (with_reducible refine Kd.C_alloc ?_ _) | (with_reducible refine Kd.C_drewN ?_ _) | (with_reducible refine Kd.C_drew ?_))); (case side2 => exact HC0_4.1); rintro e w40 ⟨v151, rfl, ho0, hb⟩; refine ⟨_, rfl, ?_⟩; have n0_ := Am_ (Kd.R_elder' (by (with_reducible repeat (first | apply rA_ | apply rN_ | apply rD_)); exact HO137.1) (Kd.R_base ho0) hb); have n1_ := Am_ (Kd.R_elder' (by (with_reducible repeat (first | apply rA_ | apply rN_ | apply rD_)); exact HO144.1) (Kd.R_base ho0) hb); have n2_ := Am_ (Kd.R_lower (Kd.R_new' (Kd.R_new' ho0 (Kd.R_lt (by (with_reducible repeat (first | apply rA_ | apply rN_ | apply rD_)); exact HO137.1))) (Kd.R_lt (by (with_reducible repeat (first | apply rA_ | apply rN_ | apply rD_)); exact HO144.1))) (bZ_ (by repeat (first | (with_reducible first | exact HB.1 | apply bA_ | apply bN_ | apply bD_ | refine bS_ ?_ GE127.1 | refine bS_ ?_ GE128.1) | exact HB.1)))); have n3_ := Am_ (kB_ (g := gb127) (o := .cells #[.int .i64 a0_0, .int .i64 a0_1, .int .i64 a0_2, .int .i64 a0_3, .slice A0_4 l0_4.length c0_4] 41 (0, 0)) (by (with_reducible repeat (first | refine kN_ ?_ _ | refine kD_ ?_ | refine kA_ ?_ _)); exact BK127.1) hb); have n4_ := Am_ (kB_ (g := gb128) (o := .cells #[.int .i64 a1_0, .int .i64 a1_1, .int .i64 a1_2, .int .i64 a1_3, .slice A1_4 l1_4.length c1_4] 41 (0, 0)) (by (with_reducible repeat (first | refine kN_ ?_ _ | refine kD_ ?_ | refine kA_ ?_ _)); exact BK128.1) hb); have n5_ := Am_ (bT_ (by repeat (first | (with_reducible first | exact HB.1 | apply bA_ | apply bN_ | apply bD_ | refine bS_ ?_ GE127.1 | refine bS_ ?_ GE128.1) | exact HB.1)) hb); clear HO137 HO144 BK127 BK128 HB; have HO137 := n0_; have HO144 := n1_; have HO152 := n2_; have BK127 := n3_; have BK128 := n4_; have HB := n5_; clear n0_ n1_ n2_ n3_ n4_ n5_; (try clear hb); (try clear hb2); (try clear hk); (try clear hi); (try clear ho0)) | ((with_reducible refine gate_dst (N := 7) rfl ?_); refine box_event ?hg (N := 7) ?hd (cs := #[.int .i64 0, .int .i64 0, .int .i64 0, .int .i64 0, .slice none 0 0]) (t := 44) ?hr ?_; (case hd => rfl); (case hg => rfl); (case hr => first | (go_simp; done) | (go_simp; rfl)); intro gb153 hg w41 hbox hb; have n0_ := Am_ (Kd.R_below (by (with_reducible repeat (first | apply rA_ | apply rN_ | apply rD_)); exact HO137.1) hb); have n1_ := Am_ (Kd.R_below (by (with_reducible repeat (first | apply rA_ | apply rN_ | apply rD_)); exact HO144.1) hb); have n2_ := Am_ (Kd.R_below (by (with_reducible repeat (first | apply rA_ | apply rN_ | apply rD_)); exact HO152.1) hb); have n3_ := Am_ (kB_ (g := gb127) (o := .cells #[.int .i64 a0_0, .int .i64 a0_1, .int .i64 a0_2, .int .i64 a0_3, .slice A0_4 l0_4.length c0_4] 41 (0, 0)) (by (with_reducible repeat (first | refine kN_ ?_ _ | refine kD_ ?_ | refine kA_ ?_ _)); exact BK127.1) hb); have n4_ := Am_ (kB_ (g := gb128) (o := .cells #[.int .i64 a1_0, .int .i64 a1_1, .int .i64 a1_2, .int .i64 a1_3, .slice A1_4 l1_4.length c1_4] 41 (0, 0)) (by (with_reducible repeat (first | refine kN_ ?_ _ | refine kD_ ?_ | refine kA_ ?_ _)); exact BK128.1) hb); have n5_ := Am_ (bT_ (by repeat (first | (with_reducible first | exact HB.1 | apply bA_ | apply bN_ | apply bD_ | refine bS_ ?_ GE127.1 | refine bS_ ?_ GE128.1) | exact HB.1)) hb); have n6_ := Am_ (hbox); have n7_ := Am_ ((by rw [hg]; exact (bZ_ (by repeat (first | (with_reducible first | exact HB.1 | apply bA_ | apply bN_ | apply bD_ | refine bS_ ?_ GE127.1 | refine bS_ ?_ GE128.1) | exact HB.1))) : w.heap.size ≤ gb153)); have n8_ := Am_ ((by rw [hg]; exact (bZ_ (by repeat (first | (with_reducible first | exact HB.1 | apply bA_ | apply bN_ | apply bD_ | refine bS_ ?_ GE127.1 | refine bS_ ?_ GE128.1) | exact HB.1))) : w.heap.size ≤ gb153)); have n9_ := Am_ ((by rw [hg]; exact Nat.ne_of_lt (blk_lt (g := gb127) (o := .cells #[.int .i64 a0_0, .int .i64 a0_1, .int .i64 a0_2, .int .i64 a0_3, .slice A0_4 l0_4.length c0_4] 41 (0, 0)) (by (with_reducible repeat (first | refine kN_ ?_ _ | refine kD_ ?_ | refine kA_ ?_ _)); exact BK127.1)) : gb127 ≠ gb153)); have n10_ := Am_ ((by rw [hg]; exact Nat.ne_of_gt (blk_lt (g := gb127) (o := .cells #[.int .i64 a0_0, .int .i64 a0_1, .int .i64 a0_2, .int .i64 a0_3, .slice A0_4 l0_4.length c0_4] 41 (0, 0)) (by (with_reducible repeat (first | refine kN_ ?_ _ | refine kD_ ?_ | refine kA_ ?_ _)); exact BK127.1)) : gb153 ≠ gb127)); have n11_ := Am_ ((by rw [hg]; exact Nat.ne_of_lt (blk_lt (g := gb128) (o := .cells #[.int .i64 a1_0, .int .i64 a1_1, .int .i64 a1_2, .int .i64 a1_3, .slice A1_4 l1_4.length c1_4] 41 (0, 0)) (by (with_reducible repeat (first | refine kN_ ?_ _ | refine kD_ ?_ | refine kA_ ?_ _)); exact BK128.1)) : gb128 ≠ gb153)); have n12_ := Am_ ((by rw [hg]; exact Nat.ne_of_gt (blk_lt (g := gb128) (o := .cells #[.int .i64 a1_0, .int .i64 a1_1, .int .i64 a1_2, .int .i64 a1_3, .slice A1_4 l1_4.length c1_4] 41 (0, 0)) (by (with_reducible repeat (first | refine kN_ ?_ _ | refine kD_ ?_ | refine kA_ ?_ _)); exact BK128.1)) : gb153 ≠ gb128)); clear HO137 HO144 HO152 BK127 BK128 HB; have HO137 := n0_; have HO144 := n1_; have HO152 := n2_; have BK127 := n3_; have BK128 := n4_; have HB := n5_; have BK153 := n6_; have GW153 := n7_; have GE153 := n8_; have NB127_153 := n9_; have NB153_127 := n10_; have NB128_153 := n11_; have NB153_128 := n12_; clear n0_ n1_ n2_ n3_ n4_ n5_ n6_ n7_ n8_ n9_ n10_ n11_ n12_ hb hbox hg; have hnb42 := NB153_127.1; have hnc42 := NB127_153.1; have hnb43 := NB153_128.1; have hnc43 := NB128_153.1; have hcz44_0 : w41.cell? ⟨gb153, 0, none⟩ = some (.int .i64 0) := kC_ BK153.1 0; have hcz44_1 : w41.cell? ⟨gb153, 1, none⟩ = some (.int .i64 0) := kC_ BK153.1 1; have hcz44_2 : w41.cell? ⟨gb153, 2, none⟩ = some (.int .i64 0) := kC_ BK153.1 2; have hcz44_3 : w41.cell? ⟨gb153, 3, none⟩ = some (.int .i64 0) := kC_ BK153.1 3; have hcz44_4 : w41.cell? ⟨gb153, 4, none⟩ = some (.slice none 0 0) := kC_ BK153.1 4; have hfz44_0 := kF_ BK153.1 0; have hfz44_1 := kF_ BK153.1 1; have hfz44_2 := kF_ BK153.1 2; have hfz44_3 := kF_ BK153.1 3; have hfz44_4 := kF_ BK153.1 4; obtain ⟨Ao45, co45, eo45⟩ := Kd.R_slice HO152.1; subst eo45; have hcz46_0 : w41.cell? ⟨gb128, 0, none⟩ = some (.int .i64 a1_0) := kC_ BK128.1 0; have hcz46_1 : w41.cell? ⟨gb128, 1, none⟩ = some (.int .i64 a1_1) := kC_ BK128.1 1; have hcz46_2 : w41.cell? ⟨gb128, 2, none⟩ = some (.int .i64 a1_2) := kC_ BK128.1 2; have hcz46_3 : w41.cell? ⟨gb128, 3, none⟩ = some (.int .i64 a1_3) := kC_ BK128.1 3; have hcz46_4 : w41.cell? ⟨gb128, 4, none⟩ = some (.slice A1_4 l1_4.length c1_4) := kC_ BK128.1 4; have hfz46_0 := kF_ BK128.1 0; have hfz46_1 := kF_ BK128.1 1; have hfz46_2 := kF_ BK128.1 2; have hfz46_3 := kF_ BK128.1 3; have hfz46_4 := kF_ BK128.1 4) | ((with_reducible refine gate_callee (f := 28) rfl ?_); refine goesL_ (some 28) rfl rfl Try.func28 (by kernel_rfl) rfl #[.agg #[.int .i64 a1_0, .int .i64 a1_1, .int .i64 a1_2, .int .i64 a1_3, .slice A1_4 l1_4.length c1_4]] rfl (by (try simp only [List.map_toArray, List.map_cons, List.map_nil]); first | done | rfl | (simp only [List.length_drop, List.length_take]; rfl)) ?_; (with_reducible refine (laws_toMeshFrame.calls k a1_0 a1_1 a1_2 a1_3 _ _ l1_4 t154 t155 t156 t157 t158 _ ?side1 ?side2 A23.1).mono ?_); (case side1 => exact Kd.C_below HR1_4.1 (by repeat (first | (with_reducible first | exact HB.1 | apply bA_ | apply bN_ | apply bD_ | refine bS_ ?_ GE127.1 | refine bS_ ?_ GE128.1 | refine bS_ ?_ GE153.1) | exact HB.1))); (case side2 => exact HC1_4.1); rintro e w47 ⟨v159, rfl, ho0, hb⟩; refine ⟨_, rfl, ?_⟩; have n0_ := Am_ (Kd.R_elder' (by (with_reducible repeat (first | apply rA_ | apply rN_ | apply rD_)); exact (Kd.R_mono (rF_ (p := ⟨gb153, 4, none⟩) (rF_ (p := ⟨gb153, 3, none⟩) (rF_ (p := ⟨gb153, 2, none⟩) (rF_ (p := ⟨gb153, 1, none⟩) (rF_ (p := ⟨gb153, 0, none⟩) (Kd.R_types HO137.1 BK153.1 (by decide)) (fun _ hk => hk.2) (.int .i64 t146)) (fun _ hk => hk.2) (.int .i64 t147)) (fun _ hk => hk.2) (.int .i64 t148)) (fun _ hk => hk.2) (.int .i64 t149)) (fun _ hk => hk.2) (.slice Ao45 t150.length co45)) (fun _ h_ => h_.1))) (Kd.R_base ho0) hb); have n1_ := Am_ (Kd.R_elder' (by (with_reducible repeat (first | apply rA_ | apply rN_ | apply rD_)); exact (Kd.R_mono (rF_ (p := ⟨gb153, 4, none⟩) (rF_ (p := ⟨gb153, 3, none⟩) (rF_ (p := ⟨gb153, 2, none⟩) (rF_ (p := ⟨gb153, 1, none⟩) (rF_ (p := ⟨gb153, 0, none⟩) (Kd.R_types HO144.1 BK153.1 (by decide)) (fun _ hk => hk.2) (.int .i64 t146)) (fun _ hk => hk.2) (.int .i64 t147)) (fun _ hk => hk.2) (.int .i64 t148)) (fun _ hk => hk.2) (.int .i64 t149)) (fun _ hk => hk.2) (.slice Ao45 t150.length co45)) (fun _ h_ => h_.1))) (Kd.R_base ho0) hb); have n2_ := Am_ (Kd.R_elder' (by (with_reducible repeat (first | apply rA_ | apply rN_ | apply rD_)); exact (Kd.R_mono (rF_ (p := ⟨gb153, 4, none⟩) (rF_ (p := ⟨gb153, 3, none⟩) (rF_ (p := ⟨gb153, 2, none⟩) (rF_ (p := ⟨gb153, 1, none⟩) (rF_ (p := ⟨gb153, 0, none⟩) (Kd.R_types HO152.1 BK153.1 (by decide)) (fun _ hk => hk.2) (.int .i64 t146)) (fun _ hk => hk.2) (.int .i64 t147)) (fun _ hk => hk.2) (.int .i64 t148)) (fun _ hk => hk.2) (.int .i64 t149)) (fun _ hk => hk.2) (.slice Ao45 t150.length co45)) (fun _ h_ => h_.1))) (Kd.R_base ho0) hb); have n3_ := Am_ (Kd.R_lower (Kd.R_new' (Kd.R_new' (Kd.R_new' ho0 (Kd.R_lt (by (with_reducible repeat (first | apply rA_ | apply rN_ | apply rD_)); exact (Kd.R_mono (rF_ (p := ⟨gb153, 4, none⟩) (rF_ (p := ⟨gb153, 3, none⟩) (rF_ (p := ⟨gb153, 2, none⟩) (rF_ (p := ⟨gb153, 1, none⟩) (rF_ (p := ⟨gb153, 0, none⟩) (Kd.R_types HO137.1 BK153.1 (by decide)) (fun _ hk => hk.2) (.int .i64 t146)) (fun _ hk => hk.2) (.int .i64 t147)) (fun _ hk => hk.2) (.int .i64 t148)) (fun _ hk => hk.2) (.int .i64 t149)) (fun _ hk => hk.2) (.slice Ao45 t150.length co45)) (fun _ h_ => h_.1))))) (Kd.R_lt (by (with_reducible repeat (first | apply rA_ | apply rN_ | apply rD_)); exact (Kd.R_mono (rF_ (p := ⟨gb153, 4, none⟩) (rF_ (p := ⟨gb153, 3, none⟩) (rF_ (p := ⟨gb153, 2, none⟩) (rF_ (p := ⟨gb153, 1, none⟩) (rF_ (p := ⟨gb153, 0, none⟩) (Kd.R_types HO144.1 BK153.1 (by decide)) (fun _ hk => hk.2) (.int .i64 t146)) (fun _ hk => hk.2) (.int .i64 t147)) (fun _ hk => hk.2) (.int .i64 t148)) (fun _ hk => hk.2) (.int .i64 t149)) (fun _ hk => hk.2) (.slice Ao45 t150.length co45)) (fun _ h_ => h_.1))))) (Kd.R_lt (by (with_reducible repeat (first | apply rA_ | apply rN_ | apply rD_)); exact (Kd.R_mono (rF_ (p := ⟨gb153, 4, none⟩) (rF_ (p := ⟨gb153, 3, none⟩) (rF_ (p := ⟨gb153, 2, none⟩) (rF_ (p := ⟨gb153, 1, none⟩) (rF_ (p := ⟨gb153, 0, none⟩) (Kd.R_types HO152.1 BK153.1 (by decide)) (fun _ hk => hk.2) (.int .i64 t146)) (fun _ hk => hk.2) (.int .i64 t147)) (fun _ hk => hk.2) (.int .i64 t148)) (fun _ hk => hk.2) (.int .i64 t149)) (fun _ hk => hk.2) (.slice Ao45 t150.length co45)) (fun _ h_ => h_.1))))) (bZ_ (by repeat (first | (with_reducible first | exact HB.1 | apply bA_ | apply bN_ | apply bD_ | refine bS_ ?_ GE127.1 | refine bS_ ?_ GE128.1 | refine bS_ ?_ GE153.1) | exact HB.1)))); have n4_ := Am_ (kB_ (g := gb127) (o := .cells #[.int .i64 a0_0, .int .i64 a0_1, .int .i64 a0_2, .int .i64 a0_3, .slice A0_4 l0_4.length c0_4] 41 (0, 0)) (by (with_reducible repeat (first | refine kN_ ?_ _ | refine kD_ ?_ | refine kA_ ?_ _)); refine blk_far ?_ NB127_153.1 _; (with_reducible repeat (first | refine kN_ ?_ _ | refine kD_ ?_ | refine kA_ ?_ _)); refine blk_far ?_ NB127_153.1 _; (with_reducible repeat (first | refine kN_ ?_ _ | refine kD_ ?_ | refine kA_ ?_ _)); refine blk_far ?_ NB127_153.1 _; (with_reducible repeat (first | refine kN_ ?_ _ | refine kD_ ?_ | refine kA_ ?_ _)); refine blk_far ?_ NB127_153.1 _; (with_reducible repeat (first | refine kN_ ?_ _ | refine kD_ ?_ | refine kA_ ?_ _)); refine blk_far ?_ NB127_153.1 _; (with_reducible repeat (first | refine kN_ ?_ _ | refine kD_ ?_ | refine kA_ ?_ _)); exact BK127.1) hb); have n5_ := Am_ (kB_ (g := gb128) (o := .cells #[.int .i64 a1_0, .int .i64 a1_1, .int .i64 a1_2, .int .i64 a1_3, .slice A1_4 l1_4.length c1_4] 41 (0, 0)) (by (with_reducible repeat (first | refine kN_ ?_ _ | refine kD_ ?_ | refine kA_ ?_ _)); refine blk_far ?_ NB128_153.1 _; (with_reducible repeat (first | refine kN_ ?_ _ | refine kD_ ?_ | refine kA_ ?_ _)); refine blk_far ?_ NB128_153.1 _; (with_reducible repeat (first | refine kN_ ?_ _ | refine kD_ ?_ | refine kA_ ?_ _)); refine blk_far ?_ NB128_153.1 _; (with_reducible repeat (first | refine kN_ ?_ _ | refine kD_ ?_ | refine kA_ ?_ _)); refine blk_far ?_ NB128_153.1 _; (with_reducible repeat (first | refine kN_ ?_ _ | refine kD_ ?_ | refine kA_ ?_ _)); refine blk_far ?_ NB128_153.1 _; (with_reducible repeat (first | refine kN_ ?_ _ | refine kD_ ?_ | refine kA_ ?_ _)); exact BK128.1) hb); have n6_ := Am_ (kB_ (g := gb153) (o := .cells #[.int .i64 t146, .int .i64 t147, .int .i64 t148, .int .i64 t149, .slice Ao45 t150.length co45] 44 (0, 0)) (by (with_reducible repeat (first | refine kN_ ?_ _ | refine kD_ ?_ | refine kA_ ?_ _)); refine blk_put (cs := #[.int .i64 t146, .int .i64 t147, .int .i64 t148, .int .i64 t149, .slice none 0 0]) ?_ 4 _ rfl; (with_reducible repeat (first | refine kN_ ?_ _ | refine kD_ ?_ | refine kA_ ?_ _)); refine blk_put (cs := #[.int .i64 t146, .int .i64 t147, .int .i64 t148, .int .i64 0, .slice none 0 0]) ?_ 3 _ rfl; (with_reducible repeat (first | refine kN_ ?_ _ | refine kD_ ?_ | refine kA_ ?_ _)); refine blk_put (cs := #[.int .i64 t146, .int .i64 t147, .int .i64 0, .int .i64 0, .slice none 0 0]) ?_ 2 _ rfl; (with_reducible repeat (first | refine kN_ ?_ _ | refine kD_ ?_ | refine kA_ ?_ _)); refine blk_put (cs := #[.int .i64 t146, .int .i64 0, .int .i64 0, .int .i64 0, .slice none 0 0]) ?_ 1 _ rfl; (with_reducible repeat (first | refine kN_ ?_ _ | refine kD_ ?_ | refine kA_ ?_ _)); refine blk_put (cs := #[.int .i64 0, .int .i64 0, .int .i64 0, .int .i64 0, .slice none 0 0]) ?_ 0 _ rfl; (with_reducible repeat (first | refine kN_ ?_ _ | refine kD_ ?_ | refine kA_ ?_ _)); exact BK153.1) hb); have n7_ := Am_ (bT_ (by repeat (first | (with_reducible first | exact HB.1 | apply bA_ | apply bN_ | apply bD_ | refine bS_ ?_ GE127.1 | refine bS_ ?_ GE128.1 | refine bS_ ?_ GE153.1) | exact HB.1)) hb); clear HO137 HO144 HO152 BK127 BK128 BK153 HB; have HO137 := n0_; have HO144 := n1_; have HO152 := n2_; have HO160 := n3_; have BK127 := n4_; have BK128 := n5_; have BK153 := n6_; have HB := n7_; clear n0_ n1_ n2_ n3_ n4_ n5_ n6_ n7_; (try clear hb); (try clear hb2); (try clear hk); (try clear hi); (try clear ho0)) | ((with_reducible refine gate_dst (N := 8) rfl ?_); refine box_event ?hg (N := 8) ?hd (cs := #[.int .i64 0, .int .i64 0, .int .i64 0, .int .i64 0, .slice none 0 0]) (t := 44) ?hr ?_; (case hd => rfl); (case hg => rfl); (case hr => first | (go_simp; done) | (go_simp; rfl)); intro gb161 hg w48 hbox hb; have n0_ := Am_ (Kd.R_below (by (with_reducible repeat (first | apply rA_ | apply rN_ | apply rD_)); exact HO137.1) hb); have n1_ := Am_ (Kd.R_below (by (with_reducible repeat (first | apply rA_ | apply rN_ | apply rD_)); exact HO144.1) hb); have n2_ := Am_ (Kd.R_below (by (with_reducible repeat (first | apply rA_ | apply rN_ | apply rD_)); exact HO152.1) hb); have n3_ := Am_ (Kd.R_below (by (with_reducible repeat (first | apply rA_ | apply rN_ | apply rD_)); exact HO160.1) hb); have n4_ := Am_ (kB_ (g := gb127) (o := .cells #[.int .i64 a0_0, .int .i64 a0_1, .int .i64 a0_2, .int .i64 a0_3, .slice A0_4 l0_4.length c0_4] 41 (0, 0)) (by (with_reducible repeat (first | refine kN_ ?_ _ | refine kD_ ?_ | refine kA_ ?_ _)); exact BK127.1) hb); have n5_ := Am_ (kB_ (g := gb128) (o := .cells #[.int .i64 a1_0, .int .i64 a1_1, .int .i64 a1_2, .int .i64 a1_3, .slice A1_4 l1_4.length c1_4] 41 (0, 0)) (by (with_reducible repeat (first | refine kN_ ?_ _ | refine kD_ ?_ | refine kA_ ?_ _)); exact BK128.1) hb); have n6_ := Am_ (kB_ (g := gb153) (o := .cells #[.int .i64 t146, .int .i64 t147, .int .i64 t148, .int .i64 t149, .slice Ao45 t150.length co45] 44 (0, 0)) (by (with_reducible repeat (first | refine kN_ ?_ _ | refine kD_ ?_ | refine kA_ ?_ _)); exact BK153.1) hb); have n7_ := Am_ (bT_ (by repeat (first | (with_reducible first | exact HB.1 | apply bA_ | apply bN_ | apply bD_ | refine bS_ ?_ GE127.1 | refine bS_ ?_ GE128.1 | refine bS_ ?_ GE153.1) | exact HB.1)) hb); have n8_ := Am_ (hbox); have n9_ := Am_ ((by rw [hg]; exact (bZ_ (by repeat (first | (with_reducible first | exact HB.1 | apply bA_ | apply bN_ | apply bD_ | refine bS_ ?_ GE127.1 | refine bS_ ?_ GE128.1 | refine bS_ ?_ GE153.1) | exact HB.1))) : w.heap.size ≤ gb161)); have n10_ := Am_ ((by rw [hg]; exact (bZ_ (by repeat (first | (with_reducible first | exact HB.1 | apply bA_ | apply bN_ | apply bD_ | refine bS_ ?_ GE127.1 | refine bS_ ?_ GE128.1 | refine bS_ ?_ GE153.1) | exact HB.1))) : w.heap.size ≤ gb161)); have n11_ := Am_ ((by rw [hg]; exact Nat.ne_of_lt (blk_lt (g := gb127) (o := .cells #[.int .i64 a0_0, .int .i64 a0_1, .int .i64 a0_2, .int .i64 a0_3, .slice A0_4 l0_4.length c0_4] 41 (0, 0)) (by (with_reducible repeat (first | refine kN_ ?_ _ | refine kD_ ?_ | refine kA_ ?_ _)); exact BK127.1)) : gb127 ≠ gb161)); have n12_ := Am_ ((by rw [hg]; exact Nat.ne_of_gt (blk_lt (g := gb127) (o := .cells #[.int .i64 a0_0, .int .i64 a0_1, .int .i64 a0_2, .int .i64 a0_3, .slice A0_4 l0_4.length c0_4] 41 (0, 0)) (by (with_reducible repeat (first | refine kN_ ?_ _ | refine kD_ ?_ | refine kA_ ?_ _)); exact BK127.1)) : gb161 ≠ gb127)); have n13_ := Am_ ((by rw [hg]; exact Nat.ne_of_lt (blk_lt (g := gb128) (o := .cells #[.int .i64 a1_0, .int .i64 a1_1, .int .i64 a1_2, .int .i64 a1_3, .slice A1_4 l1_4.length c1_4] 41 (0, 0)) (by (with_reducible repeat (first | refine kN_ ?_ _ | refine kD_ ?_ | refine kA_ ?_ _)); exact BK128.1)) : gb128 ≠ gb161)); have n14_ := Am_ ((by rw [hg]; exact Nat.ne_of_gt (blk_lt (g := gb128) (o := .cells #[.int .i64 a1_0, .int .i64 a1_1, .int .i64 a1_2, .int .i64 a1_3, .slice A1_4 l1_4.length c1_4] 41 (0, 0)) (by (with_reducible repeat (first | refine kN_ ?_ _ | refine kD_ ?_ | refine kA_ ?_ _)); exact BK128.1)) : gb161 ≠ gb128)); have n15_ := Am_ ((by rw [hg]; exact Nat.ne_of_lt (blk_lt (g := gb153) (o := .cells #[.int .i64 t146, .int .i64 t147, .int .i64 t148, .int .i64 t149, .slice Ao45 t150.length co45] 44 (0, 0)) (by (with_reducible repeat (first | refine kN_ ?_ _ | refine kD_ ?_ | refine kA_ ?_ _)); exact BK153.1)) : gb153 ≠ gb161)); have n16_ := Am_ ((by rw [hg]; exact Nat.ne_of_gt (blk_lt (g := gb153) (o := .cells #[.int .i64 t146, .int .i64 t147, .int .i64 t148, .int .i64 t149, .slice Ao45 t150.length co45] 44 (0, 0)) (by (with_reducible repeat (first | refine kN_ ?_ _ | refine kD_ ?_ | refine kA_ ?_ _)); exact BK153.1)) : gb161 ≠ gb153)); clear HO137 HO144 HO152 HO160 BK127 BK128 BK153 HB; have HO137 := n0_; have HO144 := n1_; have HO152 := n2_; have HO160 := n3_; have BK127 := n4_; have BK128 := n5_; have BK153 := n6_; have HB := n7_; have BK161 := n8_; have GW161 := n9_; have GE161 := n10_; have NB127_161 := n11_; have NB161_127 := n12_; have NB128_161 := n13_; have NB161_128 := n14_; have NB153_161 := n15_; have NB161_153 := n16_; clear n0_ n1_ n2_ n3_ n4_ n5_ n6_ n7_ n8_ n9_ n10_ n11_ n12_ n13_ n14_ n15_ n16_ hb hbox hg; have hnb49 := NB161_127.1; have hnc49 := NB127_161.1; have hnb50 := NB161_128.1; have hnc50 := NB128_161.1; have hnb51 := NB161_153.1; have hnc51 := NB153_161.1; have hcz52_0 : w48.cell? ⟨gb161, 0, none⟩ = some (.int .i64 0) := kC_ BK161.1 0; have hcz52_1 : w48.cell? ⟨gb161, 1, none⟩ = some (.int .i64 0) := kC_ BK161.1 1; have hcz52_2 : w48.cell? ⟨gb161, 2, none⟩ = some (.int .i64 0) := kC_ BK161.1 2; have hcz52_3 : w48.cell? ⟨gb161, 3, none⟩ = some (.int .i64 0) := kC_ BK161.1 3; have hcz52_4 : w48.cell? ⟨gb161, 4, none⟩ = some (.slice none 0 0) := kC_ BK161.1 4; have hfz52_0 := kF_ BK161.1 0; have hfz52_1 := kF_ BK161.1 1; have hfz52_2 := kF_ BK161.1 2; have hfz52_3 := kF_ BK161.1 3; have hfz52_4 := kF_ BK161.1 4; obtain ⟨Ao53, co53, eo53⟩ := Kd.R_slice HO160.1; subst eo53; have hcz54_0 : w48.cell? ⟨gb153, 0, none⟩ = some (.int .i64 t146) := kC_ BK153.1 0; have hcz54_1 : w48.cell? ⟨gb153, 1, none⟩ = some (.int .i64 t147) := kC_ BK153.1 1; have hcz54_2 : w48.cell? ⟨gb153, 2, none⟩ = some (.int .i64 t148) := kC_ BK153.1 2; have hcz54_3 : w48.cell? ⟨gb153, 3, none⟩ = some (.int .i64 t149) := kC_ BK153.1 3; have hcz54_4 : w48.cell? ⟨gb153, 4, none⟩ = some (.slice Ao45 t150.length co45) := kC_ BK153.1 4; have hfz54_0 := kF_ BK153.1 0; have hfz54_1 := kF_ BK153.1 1; have hfz54_2 := kF_ BK153.1 2; have hfz54_3 := kF_ BK153.1 3; have hfz54_4 := kF_ BK153.1 4) | ((with_reducible refine gate_callee (f := 29) rfl ?_); refine goesL_ (some 31) rfl rfl Try.func29 (by kernel_rfl) rfl #[.agg #[.int .i64 t146, .int .i64 t147, .int .i64 t148, .int .i64 t149, .slice Ao45 t150.length co45], .agg #[.int .i64 t154, .int .i64 t155, .int .i64 t156, .int .i64 t157, .slice Ao53 t158.length co53]] rfl (by (try simp only [List.map_toArray, List.map_cons, List.map_nil]); first | done | rfl | (simp only [List.length_drop, List.length_take]; rfl)) ?_; (with_reducible refine (impl_EqualMeshFrames.calls k t146 t147 t148 t149 _ _ t150 t154 t155 t156 t157 _ _ t158 t162 _ ?side1 ?side2 ?side3 ?side4 A24.1).mono ?_); (case side1 => refine (Kd.R_reads' (e := 5) (base := w.heap.size) (ok := fun k_ => (((True ∧ some k_ ≠ (.slice Ao36 t135.length co36 : Value).ownBlock) ∧ some k_ ≠ (.slice Ao37 t142.length co37 : Value).ownBlock) ∧ some k_ ≠ (.slice Ao53 t158.length co53 : Value).ownBlock)) (n := t150.length) (c := co45) ?_).2.2; exact (by (with_reducible repeat (first | apply rA_ | apply rN_ | apply rD_)); exact (Kd.R_mono (rF_ (p := ⟨gb161, 4, none⟩) (rF_ (p := ⟨gb161, 3, none⟩) (rF_ (p := ⟨gb161, 2, none⟩) (rF_ (p := ⟨gb161, 1, none⟩) (rF_ (p := ⟨gb161, 0, none⟩) (Kd.R_types HO152.1 BK161.1 (by decide)) (fun _ hk => hk.2) (.int .i64 t154)) (fun _ hk => hk.2) (.int .i64 t155)) (fun _ hk => hk.2) (.int .i64 t156)) (fun _ hk => hk.2) (.int .i64 t157)) (fun _ hk => hk.2) (.slice Ao53 t158.length co53)) (fun _ h_ => h_.1)))); (case side2 => exact (Kd.R_reads' HO152.1).2.1); (case side3 => refine (Kd.R_reads' (e := 5) (base := w.heap.size) (ok := fun k_ => (((True ∧ some k_ ≠ (.slice Ao36 t135.length co36 : Value).ownBlock) ∧ some k_ ≠ (.slice Ao37 t142.length co37 : Value).ownBlock) ∧ some k_ ≠ (.slice Ao45 t150.length co45 : Value).ownBlock)) (n := t158.length) (c := co53) ?_).2.2; exact (by (with_reducible repeat (first | apply rA_ | apply rN_ | apply rD_)); exact (Kd.R_mono (rF_ (p := ⟨gb161, 4, none⟩) (rF_ (p := ⟨gb161, 3, none⟩) (rF_ (p := ⟨gb161, 2, none⟩) (rF_ (p := ⟨gb161, 1, none⟩) (rF_ (p := ⟨gb161, 0, none⟩) (Kd.R_types HO160.1 BK161.1 (by decide)) (fun _ hk => hk.2) (.int .i64 t154)) (fun _ hk => hk.2) (.int .i64 t155)) (fun _ hk => hk.2) (.int .i64 t156)) (fun _ hk => hk.2) (.int .i64 t157)) (fun _ hk => hk.2) (.slice Ao53 t158.length co53)) (fun _ h_ => h_.1)))); (case side4 => exact (Kd.R_reads' HO160.1).2.1); rintro e w55 ⟨rfl, hb⟩; refine ⟨_, rfl, ?_⟩; have n0_ := Am_ (Kd.R_below (by (with_reducible repeat (first | apply rA_ | apply rN_ | apply rD_)); exact (Kd.R_mono (rF_ (p := ⟨gb161, 4, none⟩) (rF_ (p := ⟨gb161, 3, none⟩) (rF_ (p := ⟨gb161, 2, none⟩) (rF_ (p := ⟨gb161, 1, none⟩) (rF_ (p := ⟨gb161, 0, none⟩) (Kd.R_types HO137.1 BK161.1 (by decide)) (fun _ hk => hk.2) (.int .i64 t154)) (fun _ hk => hk.2) (.int .i64 t155)) (fun _ hk => hk.2) (.int .i64 t156)) (fun _ hk => hk.2) (.int .i64 t157)) (fun _ hk => hk.2) (.slice Ao53 t158.length co53)) (fun _ h_ => h_.1))) hb); have n1_ := Am_ (Kd.R_below (by (with_reducible repeat (first | apply rA_ | apply rN_ | apply rD_)); exact (Kd.R_mono (rF_ (p := ⟨gb161, 4, none⟩) (rF_ (p := ⟨gb161, 3, none⟩) (rF_ (p := ⟨gb161, 2, none⟩) (rF_ (p := ⟨gb161, 1, none⟩) (rF_ (p := ⟨gb161, 0, none⟩) (Kd.R_types HO144.1 BK161.1 (by decide)) (fun _ hk => hk.2) (.int .i64 t154)) (fun _ hk => hk.2) (.int .i64 t155)) (fun _ hk => hk.2) (.int .i64 t156)) (fun _ hk => hk.2) (.int .i64 t157)) (fun _ hk => hk.2) (.slice Ao53 t158.length co53)) (fun _ h_ => h_.1))) hb); have n2_ := Am_ (Kd.R_below (by (with_reducible repeat (first | apply rA_ | apply rN_ | apply rD_)); exact (Kd.R_mono (rF_ (p := ⟨gb161, 4, none⟩) (rF_ (p := ⟨gb161, 3, none⟩) (rF_ (p := ⟨gb161, 2, none⟩) (rF_ (p := ⟨gb161, 1, none⟩) (rF_ (p := ⟨gb161, 0, none⟩) (Kd.R_types HO152.1 BK161.1 (by decide)) (fun _ hk => hk.2) (.int .i64 t154)) (fun _ hk => hk.2) (.int .i64 t155)) (fun _ hk => hk.2) (.int .i64 t156)) (fun _ hk => hk.2) (.int .i64 t157)) (fun _ hk => hk.2) (.slice Ao53 t158.length co53)) (fun _ h_ => h_.1))) hb); have n3_ := Am_ (Kd.R_below (by (with_reducible repeat (first | apply rA_ | apply rN_ | apply rD_)); exact (Kd.R_mono (rF_ (p := ⟨gb161, 4, none⟩) (rF_ (p := ⟨gb161, 3, none⟩) (rF_ (p := ⟨gb161, 2, none⟩) (rF_ (p := ⟨gb161, 1, none⟩) (rF_ (p := ⟨gb161, 0, none⟩) (Kd.R_types HO160.1 BK161.1 (by decide)) (fun _ hk => hk.2) (.int .i64 t154)) (fun _ hk => hk.2) (.int .i64 t155)) (fun _ hk => hk.2) (.int .i64 t156)) (fun _ hk => hk.2) (.int .i64 t157)) (fun _ hk => hk.2) (.slice Ao53 t158.length co53)) (fun _ h_ => h_.1))) hb); have n4_ := Am_ (kB_ (g := gb127) (o := .cells #[.int .i64 a0_0, .int .i64 a0_1, .int .i64 a0_2, .int .i64 a0_3, .slice A0_4 l0_4.length c0_4] 41 (0, 0)) (by (with_reducible repeat (first | refine kN_ ?_ _ | refine kD_ ?_ | refine kA_ ?_ _)); refine blk_far ?_ NB127_161.1 _; (with_reducible repeat (first | refine kN_ ?_ _ | refine kD_ ?_ | refine kA_ ?_ _)); refine blk_far ?_ NB127_161.1 _; (with_reducible repeat (first | refine kN_ ?_ _ | refine kD_ ?_ | refine kA_ ?_ _)); refine blk_far ?_ NB127_161.1 _; (with_reducible repeat (first | refine kN_ ?_ _ | refine kD_ ?_ | refine kA_ ?_ _)); refine blk_far ?_ NB127_161.1 _; (with_reducible repeat (first | refine kN_ ?_ _ | refine kD_ ?_ | refine kA_ ?_ _)); refine blk_far ?_ NB127_161.1 _; (with_reducible repeat (first | refine kN_ ?_ _ | refine kD_ ?_ | refine kA_ ?_ _)); exact BK127.1) hb); have n5_ := Am_ (kB_ (g := gb128) (o := .cells #[.int .i64 a1_0, .int .i64 a1_1, .int .i64 a1_2, .int .i64 a1_3, .slice A1_4 l1_4.length c1_4] 41 (0, 0)) (by (with_reducible repeat (first | refine kN_ ?_ _ | refine kD_ ?_ | refine kA_ ?_ _)); refine blk_far ?_ NB128_161.1 _; (with_reducible repeat (first | refine kN_ ?_ _ | refine kD_ ?_ | refine kA_ ?_ _)); refine blk_far ?_ NB128_161.1 _; (with_reducible repeat (first | refine kN_ ?_ _ | refine kD_ ?_ | refine kA_ ?_ _)); refine blk_far ?_ NB128_161.1 _; (with_reducible repeat (first | refine kN_ ?_ _ | refine kD_ ?_ | refine kA_ ?_ _)); refine blk_far ?_ NB128_161.1 _; (with_reducible repeat (first | refine kN_ ?_ _ | refine kD_ ?_ | refine kA_ ?_ _)); refine blk_far ?_ NB128_161.1 _; (with_reducible repeat (first | refine kN_ ?_ _ | refine kD_ ?_ | refine kA_ ?_ _)); exact BK128.1) hb); have n6_ := Am_ (kB_ (g := gb153) (o := .cells #[.int .i64 t146, .int .i64 t147, .int .i64 t148, .int .i64 t149, .slice Ao45 t150.length co45] 44 (0, 0)) (by (with_reducible repeat (first | refine kN_ ?_ _ | refine kD_ ?_ | refine kA_ ?_ _)); refine blk_far ?_ NB153_161.1 _; (with_reducible repeat (first | refine kN_ ?_ _ | refine kD_ ?_ | refine kA_ ?_ _)); refine blk_far ?_ NB153_161.1 _; (with_reducible repeat (first | refine kN_ ?_ _ | refine kD_ ?_ | refine kA_ ?_ _)); refine blk_far ?_ NB153_161.1 _; (with_reducible repeat (first | refine kN_ ?_ _ | refine kD_ ?_ | refine kA_ ?_ _)); refine blk_far ?_ NB153_161.1 _; (with_reducible repeat (first | refine kN_ ?_ _ | refine kD_ ?_ | refine kA_ ?_ _)); refine blk_far ?_ NB153_161.1 _; (with_reducible repeat (first | refine kN_ ?_ _ | refine kD_ ?_ | refine kA_ ?_ _)); exact BK153.1) hb); have n7_ := Am_ (kB_ (g := gb161) (o := .cells #[.int .i64 t154, .int .i64 t155, .int .i64 t156, .int .i64 t157, .slice Ao53 t158.length co53] 44 (0, 0)) (by (with_reducible repeat (first | refine kN_ ?_ _ | refine kD_ ?_ | refine kA_ ?_ _)); refine blk_put (cs := #[.int .i64 t154, .int .i64 t155, .int .i64 t156, .int .i64 t157, .slice none 0 0]) ?_ 4 _ rfl; (with_reducible repeat (first | refine kN_ ?_ _ | refine kD_ ?_ | refine kA_ ?_ _)); refine blk_put (cs := #[.int .i64 t154, .int .i64 t155, .int .i64 t156, .int .i64 0, .slice none 0 0]) ?_ 3 _ rfl; (with_reducible repeat (first | refine kN_ ?_ _ | refine kD_ ?_ | refine kA_ ?_ _)); refine blk_put (cs := #[.int .i64 t154, .int .i64 t155, .int .i64 0, .int .i64 0, .slice none 0 0]) ?_ 2 _ rfl; (with_reducible repeat (first | refine kN_ ?_ _ | refine kD_ ?_ | refine kA_ ?_ _)); refine blk_put (cs := #[.int .i64 t154, .int .i64 0, .int .i64 0, .int .i64 0, .slice none 0 0]) ?_ 1 _ rfl; (with_reducible repeat (first | refine kN_ ?_ _ | refine kD_ ?_ | refine kA_ ?_ _)); refine blk_put (cs := #[.int .i64 0, .int .i64 0, .int .i64 0, .int .i64 0, .slice none 0 0]) ?_ 0 _ rfl; (with_reducible repeat (first | refine kN_ ?_ _ | refine kD_ ?_ | refine kA_ ?_ _)); exact BK161.1) hb); have n8_ := Am_ (bT_ (by repeat (first | (with_reducible first | exact HB.1 | apply bA_ | apply bN_ | apply bD_ | refine bS_ ?_ GE127.1 | refine bS_ ?_ GE128.1 | refine bS_ ?_ GE153.1 | refine bS_ ?_ GE161.1) | exact HB.1)) hb); clear HO137 HO144 HO152 HO160 BK127 BK128 BK153 BK161 HB; have HO137 := n0_; have HO144 := n1_; have HO152 := n2_; have HO160 := n3_; have BK127 := n4_; have BK128 := n5_; have BK153 := n6_; have BK161 := n7_; have HB := n8_; clear n0_ n1_ n2_ n3_ n4_ n5_ n6_ n7_ n8_; (try clear hb); (try clear hb2); (try clear hk); (try clear hi)))
    go_ret
    exact ⟨by first | rfl | (simp [errW_none, errW_some] <;> rfl) | (simp [*, errW_none, errW_some] <;> rfl), by repeat (first | (with_reducible first | exact HB.1 | apply bA_ | apply bN_ | apply bD_ | refine bS_ ?_ GE127.1 | refine bS_ ?_ GE128.1 | refine bS_ ?_ GE153.1 | refine bS_ ?_ GE161.1) | exact HB.1)⟩
   ·rw [if_neg c25] at H
    have c25b0 : (t162 != t145) = false := by simpa using c25
    (try (have c25b1 : decide (t162 = t145) = true := by simpa using c25))
    (try (have c25b2 : (t162 == t145) = true := by simpa using c25))
    clear c25
    replace H := Option.bind_eq_some_iff.mp H
    obtain ⟨⟨t163, t164, t165, t166, t167⟩, A560, H⟩ := H
    replace H : ((laws_eqMeshFrame.f k t146 t147 t148 t149 t150 t163 t164 t165 t166 t167).bind fun t170 => (if t170 = true then ((laws_toMeshFrame.f k a1_0 a1_1 a1_2 a1_3 l1_4).bind fun bt171 => ((laws_eqMeshFrame.f k t154 t155 t156 t157 t158 bt171.1 bt171.2.1 bt171.2.2.1 bt171.2.2.2.1 bt171.2.2.2.2).bind fun t178 => (if t178 = true then (some true) else (some false)))) else (some false))) = some r := H
    have A56 := Am_ A560
    clear A560
    replace H := Option.bind_eq_some_iff.mp H
    obtain ⟨t170, A570, H⟩ := H
    replace H : (if t170 = true then ((laws_toMeshFrame.f k a1_0 a1_1 a1_2 a1_3 l1_4).bind fun bt171 => ((laws_eqMeshFrame.f k t154 t155 t156 t157 t158 bt171.1 bt171.2.1 bt171.2.2.1 bt171.2.2.2.1 bt171.2.2.2.2).bind fun t178 => (if t178 = true then (some true) else (some false)))) else (some false)) = some r := H
    have A57 := Am_ A570
    clear A570
    by_cases c58 : t170 = true
    ·subst c58
     have H1 : ((laws_toMeshFrame.f k a1_0 a1_1 a1_2 a1_3 l1_4).bind fun bt171 => ((laws_eqMeshFrame.f k t154 t155 t156 t157 t158 bt171.1 bt171.2.1 bt171.2.2.1 bt171.2.2.2.1 bt171.2.2.2.2).bind fun t178 => (if t178 = true then (some true) else (some false)))) = some r := by rw [if_pos rfl] at H; exact H
     clear H
     have H := H1
     clear H1
     replace H := Option.bind_eq_some_iff.mp H
     obtain ⟨⟨t171, t172, t173, t174, t175⟩, A590, H⟩ := H
     replace H : ((laws_eqMeshFrame.f k t154 t155 t156 t157 t158 t171 t172 t173 t174 t175).bind fun t178 => (if t178 = true then (some true) else (some false))) = some r := H
     have A59 := Am_ A590
     clear A590
     replace H := Option.bind_eq_some_iff.mp H
     obtain ⟨t178, A600, H⟩ := H
     replace H : (if t178 = true then (some true) else (some false)) = some r := H
     have A60 := Am_ A600
     clear A600
     by_cases c61 : t178 = true
     ·subst c61
      have H1 : (some true) = some r := by rw [if_pos rfl] at H; exact H
      clear H
      have H := H1
      clear H1
      obtain rfl := Option.some.inj H
      go_enter Try.func6, Try.ntmps6
      try go_wp2_with (first | ((with_reducible refine gate_dst (N := 2) rfl ?_); refine box_event ?hg (N := 2) ?hd (cs := #[.int .i64 a0_0, .int .i64 a0_1, .int .i64 a0_2, .int .i64 a0_3, .slice A0_4 l0_4.length c0_4]) (t := 41) ?hr ?_; (case hd => rfl); (case hg => rfl); (case hr => first | (go_simp; done) | (go_simp; rfl)); intro gb127 hg w62 hbox hb; have n0_ := Am_ (bT_ (by repeat (first | (with_reducible first | exact HB.1 | apply bA_ | apply bN_ | apply bD_) | exact HB.1)) hb); have n1_ := Am_ (hbox); have n2_ := Am_ ((by rw [hg]; exact (bZ_ (by repeat (first | (with_reducible first | exact HB.1 | apply bA_ | apply bN_ | apply bD_) | exact HB.1))) : w.heap.size ≤ gb127)); have n3_ := Am_ ((by rw [hg]; exact (bZ_ (by repeat (first | (with_reducible first | exact HB.1 | apply bA_ | apply bN_ | apply bD_) | exact HB.1))) : w.heap.size ≤ gb127)); clear HB; have HB := n0_; have BK127 := n1_; have GW127 := n2_; have GE127 := n3_; clear n0_ n1_ n2_ n3_ hb hbox hg) | ((with_reducible refine gate_dst (N := 3) rfl ?_); refine box_event ?hg (N := 3) ?hd (cs := #[.int .i64 a1_0, .int .i64 a1_1, .int .i64 a1_2, .int .i64 a1_3, .slice A1_4 l1_4.length c1_4]) (t := 41) ?hr ?_; (case hd => rfl); (case hg => rfl); (case hr => first | (go_simp; done) | (go_simp; rfl)); intro gb128 hg w63 hbox hb; have n0_ := Am_ (kB_ (g := gb127) (o := .cells #[.int .i64 a0_0, .int .i64 a0_1, .int .i64 a0_2, .int .i64 a0_3, .slice A0_4 l0_4.length c0_4] 41 (0, 0)) (by (with_reducible repeat (first | refine kN_ ?_ _ | refine kD_ ?_ | refine kA_ ?_ _)); exact BK127.1) hb); have n1_ := Am_ (bT_ (by repeat (first | (with_reducible first | exact HB.1 | apply bA_ | apply bN_ | apply bD_ | refine bS_ ?_ GE127.1) | exact HB.1)) hb); have n2_ := Am_ (hbox); have n3_ := Am_ ((by rw [hg]; exact (bZ_ (by repeat (first | (with_reducible first | exact HB.1 | apply bA_ | apply bN_ | apply bD_ | refine bS_ ?_ GE127.1) | exact HB.1))) : w.heap.size ≤ gb128)); have n4_ := Am_ ((by rw [hg]; exact (bZ_ (by repeat (first | (with_reducible first | exact HB.1 | apply bA_ | apply bN_ | apply bD_ | refine bS_ ?_ GE127.1) | exact HB.1))) : w.heap.size ≤ gb128)); have n5_ := Am_ ((by rw [hg]; exact Nat.ne_of_lt (blk_lt (g := gb127) (o := .cells #[.int .i64 a0_0, .int .i64 a0_1, .int .i64 a0_2, .int .i64 a0_3, .slice A0_4 l0_4.length c0_4] 41 (0, 0)) (by (with_reducible repeat (first | refine kN_ ?_ _ | refine kD_ ?_ | refine kA_ ?_ _)); exact BK127.1)) : gb127 ≠ gb128)); have n6_ := Am_ ((by rw [hg]; exact Nat.ne_of_gt (blk_lt (g := gb127) (o := .cells #[.int .i64 a0_0, .int .i64 a0_1, .int .i64 a0_2, .int .i64 a0_3, .slice A0_4 l0_4.length c0_4] 41 (0, 0)) (by (with_reducible repeat (first | refine kN_ ?_ _ | refine kD_ ?_ | refine kA_ ?_ _)); exact BK127.1)) : gb128 ≠ gb127)); clear BK127 HB; have BK127 := n0_; have HB := n1_; have BK128 := n2_; have GW128 := n3_; have GE128 := n4_; have NB127_128 := n5_; have NB128_127 := n6_; clear n0_ n1_ n2_ n3_ n4_ n5_ n6_ hb hbox hg; have hnb64 := NB127_128.1; have hnc64 := NB128_127.1; have hcz65_0 : w63.cell? ⟨gb127, 0, none⟩ = some (.int .i64 a0_0) := kC_ BK127.1 0; have hcz65_1 : w63.cell? ⟨gb127, 1, none⟩ = some (.int .i64 a0_1) := kC_ BK127.1 1; have hcz65_2 : w63.cell? ⟨gb127, 2, none⟩ = some (.int .i64 a0_2) := kC_ BK127.1 2; have hcz65_3 : w63.cell? ⟨gb127, 3, none⟩ = some (.int .i64 a0_3) := kC_ BK127.1 3; have hcz65_4 : w63.cell? ⟨gb127, 4, none⟩ = some (.slice A0_4 l0_4.length c0_4) := kC_ BK127.1 4; have hfz65_0 := kF_ BK127.1 0; have hfz65_1 := kF_ BK127.1 1; have hfz65_2 := kF_ BK127.1 2; have hfz65_3 := kF_ BK127.1 3; have hfz65_4 := kF_ BK127.1 4) | ((with_reducible refine gate_callee (f := 26) rfl ?_); refine goesL_ (some 12) rfl rfl Try.func26 (by kernel_rfl) rfl #[.agg #[.int .i64 a0_0, .int .i64 a0_1, .int .i64 a0_2, .int .i64 a0_3, .slice A0_4 l0_4.length c0_4], .int .i64 1048576] rfl (by (try simp only [List.map_toArray, List.map_cons, List.map_nil]); first | done | rfl | (simp only [List.length_drop, List.length_take]; rfl)) ?_; (with_reducible refine (laws_szMeshFrame.calls a0_0 a0_1 a0_2 a0_3 _ _ l0_4 1048576 t129 _ ?side1 ?side2 A3.1).mono ?_); (case side1 => repeat (first | exact (Kd.C_below HR0_4.1 HB.1) | (with_reducible refine Kd.C_alloc ?_ _) | (with_reducible refine Kd.C_drewN ?_ _) | (with_reducible refine Kd.C_drew ?_))); (case side2 => exact HC0_4.1); rintro e w66 ⟨rfl, hb⟩; refine ⟨_, rfl, ?_⟩; have n0_ := Am_ (kB_ (g := gb127) (o := .cells #[.int .i64 a0_0, .int .i64 a0_1, .int .i64 a0_2, .int .i64 a0_3, .slice A0_4 l0_4.length c0_4] 41 (0, 0)) (by (with_reducible repeat (first | refine kN_ ?_ _ | refine kD_ ?_ | refine kA_ ?_ _)); exact BK127.1) hb); have n1_ := Am_ (kB_ (g := gb128) (o := .cells #[.int .i64 a1_0, .int .i64 a1_1, .int .i64 a1_2, .int .i64 a1_3, .slice A1_4 l1_4.length c1_4] 41 (0, 0)) (by (with_reducible repeat (first | refine kN_ ?_ _ | refine kD_ ?_ | refine kA_ ?_ _)); exact BK128.1) hb); have n2_ := Am_ (bT_ (by repeat (first | (with_reducible first | exact HB.1 | apply bA_ | apply bN_ | apply bD_ | refine bS_ ?_ GE127.1 | refine bS_ ?_ GE128.1) | exact HB.1)) hb); clear BK127 BK128 HB; have BK127 := n0_; have BK128 := n1_; have HB := n2_; clear n0_ n1_ n2_; (try clear hb); (try clear hb2); (try clear hk); (try clear hi); have hcz67_0 : w66.cell? ⟨gb128, 0, none⟩ = some (.int .i64 a1_0) := kC_ BK128.1 0; have hcz67_1 : w66.cell? ⟨gb128, 1, none⟩ = some (.int .i64 a1_1) := kC_ BK128.1 1; have hcz67_2 : w66.cell? ⟨gb128, 2, none⟩ = some (.int .i64 a1_2) := kC_ BK128.1 2; have hcz67_3 : w66.cell? ⟨gb128, 3, none⟩ = some (.int .i64 a1_3) := kC_ BK128.1 3; have hcz67_4 : w66.cell? ⟨gb128, 4, none⟩ = some (.slice A1_4 l1_4.length c1_4) := kC_ BK128.1 4; have hfz67_0 := kF_ BK128.1 0; have hfz67_1 := kF_ BK128.1 1; have hfz67_2 := kF_ BK128.1 2; have hfz67_3 := kF_ BK128.1 3; have hfz67_4 := kF_ BK128.1 4) | ((with_reducible refine gate_callee (f := 26) rfl ?_); refine goesL_ (some 17) rfl rfl Try.func26 (by kernel_rfl) rfl #[.agg #[.int .i64 a1_0, .int .i64 a1_1, .int .i64 a1_2, .int .i64 a1_3, .slice A1_4 l1_4.length c1_4], .int .i64 t129] rfl (by (try simp only [List.map_toArray, List.map_cons, List.map_nil]); first | done | rfl | (simp only [List.length_drop, List.length_take]; rfl)) ?_; (with_reducible refine (laws_szMeshFrame.calls a1_0 a1_1 a1_2 a1_3 _ _ l1_4 t129 t130 _ ?side1 ?side2 A10.1).mono ?_); (case side1 => repeat (first | exact (Kd.C_below HR1_4.1 HB.1) | (with_reducible refine Kd.C_alloc ?_ _) | (with_reducible refine Kd.C_drewN ?_ _) | (with_reducible refine Kd.C_drew ?_))); (case side2 => exact HC1_4.1); rintro e w68 ⟨rfl, hb⟩; refine ⟨_, rfl, ?_⟩; have n0_ := Am_ (kB_ (g := gb127) (o := .cells #[.int .i64 a0_0, .int .i64 a0_1, .int .i64 a0_2, .int .i64 a0_3, .slice A0_4 l0_4.length c0_4] 41 (0, 0)) (by (with_reducible repeat (first | refine kN_ ?_ _ | refine kD_ ?_ | refine kA_ ?_ _)); exact BK127.1) hb); have n1_ := Am_ (kB_ (g := gb128) (o := .cells #[.int .i64 a1_0, .int .i64 a1_1, .int .i64 a1_2, .int .i64 a1_3, .slice A1_4 l1_4.length c1_4] 41 (0, 0)) (by (with_reducible repeat (first | refine kN_ ?_ _ | refine kD_ ?_ | refine kA_ ?_ _)); exact BK128.1) hb); have n2_ := Am_ (bT_ (by repeat (first | (with_reducible first | exact HB.1 | apply bA_ | apply bN_ | apply bD_ | refine bS_ ?_ GE127.1 | refine bS_ ?_ GE128.1) | exact HB.1)) hb); clear BK127 BK128 HB; have BK127 := n0_; have BK128 := n1_; have HB := n2_; clear n0_ n1_ n2_; (try clear hb); (try clear hb2); (try clear hk); (try clear hi)))
      have n0_ := Am_ (kD_ BK127.1)
      have n1_ := Am_ (kD_ BK128.1)
      have n2_ := Am_ (bD_ HB.1)
      clear BK127
      clear BK128
      clear HB
      have BK127 := n0_
      have BK128 := n1_
      have HB := n2_
      clear n0_ n1_ n2_
      refine start_ (n := 6) (S := fun w' => w'.cell? ⟨gb127, 0, none⟩ = some (.int .i64 a0_0) ∧ w'.cell? ⟨gb127, 1, none⟩ = some (.int .i64 a0_1) ∧ w'.cell? ⟨gb127, 2, none⟩ = some (.int .i64 a0_2) ∧ w'.cell? ⟨gb127, 3, none⟩ = some (.int .i64 a0_3) ∧ w'.cell? ⟨gb127, 4, none⟩ = some (.slice A0_4 l0_4.length c0_4) ∧ w'.cell? ⟨gb128, 0, none⟩ = some (.int .i64 a1_0) ∧ w'.cell? ⟨gb128, 1, none⟩ = some (.int .i64 a1_1) ∧ w'.cell? ⟨gb128, 2, none⟩ = some (.int .i64 a1_2) ∧ w'.cell? ⟨gb128, 3, none⟩ = some (.int .i64 a1_3) ∧ w'.cell? ⟨gb128, 4, none⟩ = some (.slice A1_4 l1_4.length c1_4)) (ds := []) #[false, false, false, false, false, false] (by kernel_rfl) rfl rfl ⟨kC_ BK127.1 0, kC_ BK127.1 1, kC_ BK127.1 2, kC_ BK127.1 3, kC_ BK127.1 4, kC_ BK128.1 0, kC_ BK128.1 1, kC_ BK128.1 2, kC_ BK128.1 3, kC_ BK128.1 4⟩ (fun hHeld => ?_)
      generalize w68.drew = w69 at BK127 BK128 HB hHeld ⊢
      refine take_ (i := 0) (N := some 20) (v := ?_) (a' := ?_) #[true, false, false, false, false, false] rfl rfl (by kernel_rfl) (fun _ _ _ h => h) (Or.inl ⟨by rfl, ?_⟩) hHeld ?_ ?_
      rotate_left
      ·rintro w' ⟨s0, s1, s2, s3, s4, s5, s6, s7, s8, s9⟩
       go_simp
       with_reducible rfl
      rotate_left
      ·simp only [Act.put, List.setIfInBounds_toArray, List.set_cons_zero, List.set_cons_succ, i64_w, i32_w]
       rfl
      refine take_ (i := 2) (N := some 22) (v := ?_) (a' := ?_) #[true, false, true, false, false, false] rfl rfl (by kernel_rfl) (fun _ _ _ h => h) (Or.inl ⟨by rfl, ?_⟩) hHeld ?_ ?_
      rotate_left
      ·rintro w' ⟨s0, s1, s2, s3, s4, s5, s6, s7, s8, s9⟩
       go_simp
       with_reducible rfl
      rotate_left
      ·simp only [Act.put, List.setIfInBounds_toArray, List.set_cons_zero, List.set_cons_succ, i64_w, i32_w]
       rfl
      refine one_ (i := 1) (N := some 21) #[true, true, true, false, false, false] rfl rfl (by kernel_rfl) (by decide) (fun K hK => ?_)
      refine goes_ Try.func28 (by kernel_rfl) rfl #[.agg #[.int .i64 a0_0, .int .i64 a0_1, .int .i64 a0_2, .int .i64 a0_3, .slice A0_4 l0_4.length c0_4]] (by rfl) rfl rfl (by (try simp only [List.map_toArray, List.map_cons, List.map_nil]); first | done | rfl | (simp only [List.length_drop, List.length_take]; rfl)) ?_
      with_reducible refine (laws_toMeshFrame.calls k a0_0 a0_1 a0_2 a0_3 _ _ l0_4 t131 t132 t133 t134 t135 _ ?side1 ?side2 A19.1).mono ?_
      (case side1 => repeat (first | exact (Kd.C_below HR0_4.1 HB.1) | (with_reducible refine Kd.C_alloc ?_ _) | (with_reducible refine Kd.C_drewN ?_ _) | (with_reducible refine Kd.C_drew ?_)))
      (case side2 => exact HC0_4.1)
      rintro e w70 ⟨v136, rfl, ho0, hb⟩
      refine ⟨_, rfl, ?_⟩
      have n0_ := Am_ (Kd.R_lower ho0 (bZ_ (by repeat (first | (with_reducible first | exact HB.1 | apply bA_ | apply bN_ | apply bD_ | refine bS_ ?_ GE127.1 | refine bS_ ?_ GE128.1) | exact HB.1))))
      have n1_ := Am_ (kB_ (g := gb127) (o := .cells #[.int .i64 a0_0, .int .i64 a0_1, .int .i64 a0_2, .int .i64 a0_3, .slice A0_4 l0_4.length c0_4] 41 (0, 0)) (by (with_reducible repeat (first | refine kN_ ?_ _ | refine kD_ ?_ | refine kA_ ?_ _)); exact BK127.1) hb)
      have n2_ := Am_ (kB_ (g := gb128) (o := .cells #[.int .i64 a1_0, .int .i64 a1_1, .int .i64 a1_2, .int .i64 a1_3, .slice A1_4 l1_4.length c1_4] 41 (0, 0)) (by (with_reducible repeat (first | refine kN_ ?_ _ | refine kD_ ?_ | refine kA_ ?_ _)); exact BK128.1) hb)
      have n3_ := Am_ (bT_ (by repeat (first | (with_reducible first | exact HB.1 | apply bA_ | apply bN_ | apply bD_ | refine bS_ ?_ GE127.1 | refine bS_ ?_ GE128.1) | exact HB.1)) hb)
      clear BK127
      clear BK128
      clear HB
      have HO137 := n0_
      have BK127 := n1_
      have BK128 := n2_
      have HB := n3_
      clear n0_ n1_ n2_ n3_
      (try clear hb)
      (try clear hb2)
      (try clear hk)
      (try clear hi)
      (try clear ho0)
      refine hK.out _ _ ⟨kC_ BK127.1 0, kC_ BK127.1 1, kC_ BK127.1 2, kC_ BK127.1 3, kC_ BK127.1 4, kC_ BK128.1 0, kC_ BK128.1 1, kC_ BK128.1 2, kC_ BK128.1 3, kC_ BK128.1 4⟩ (fun hHeld => ?_)
      clear hK K
      refine norm_ (a' := ?_) ?_ ?_
      rotate_left
      ·show Act.put _ (some 21) _ = _
       simp only [Act.put, List.setIfInBounds_toArray, List.set_cons_zero, List.set_cons_succ, i64_w, i32_w]
       rfl
      refine one_ (i := 3) (N := some 23) #[true, true, true, true, false, false] rfl rfl (by kernel_rfl) (by decide) (fun K hK => ?_)
      refine goes_ Try.func28 (by kernel_rfl) rfl #[.agg #[.int .i64 a1_0, .int .i64 a1_1, .int .i64 a1_2, .int .i64 a1_3, .slice A1_4 l1_4.length c1_4]] (by rfl) rfl rfl (by (try simp only [List.map_toArray, List.map_cons, List.map_nil]); first | done | rfl | (simp only [List.length_drop, List.length_take]; rfl)) ?_
      with_reducible refine (laws_toMeshFrame.calls k a1_0 a1_1 a1_2 a1_3 _ _ l1_4 t138 t139 t140 t141 t142 _ ?side1 ?side2 A20.1).mono ?_
      (case side1 => repeat (first | exact (Kd.C_below HR1_4.1 HB.1) | (with_reducible refine Kd.C_alloc ?_ _) | (with_reducible refine Kd.C_drewN ?_ _) | (with_reducible refine Kd.C_drew ?_)))
      (case side2 => exact HC1_4.1)
      rintro e w71 ⟨v143, rfl, ho0, hb⟩
      refine ⟨_, rfl, ?_⟩
      have n0_ := Am_ (Kd.R_elder' (by (with_reducible repeat (first | apply rA_ | apply rN_ | apply rD_)); exact HO137.1) (Kd.R_base ho0) hb)
      have n1_ := Am_ (Kd.R_lower (Kd.R_new' ho0 (Kd.R_lt (by (with_reducible repeat (first | apply rA_ | apply rN_ | apply rD_)); exact HO137.1))) (bZ_ (by repeat (first | (with_reducible first | exact HB.1 | apply bA_ | apply bN_ | apply bD_ | refine bS_ ?_ GE127.1 | refine bS_ ?_ GE128.1) | exact HB.1))))
      have n2_ := Am_ (kB_ (g := gb127) (o := .cells #[.int .i64 a0_0, .int .i64 a0_1, .int .i64 a0_2, .int .i64 a0_3, .slice A0_4 l0_4.length c0_4] 41 (0, 0)) (by (with_reducible repeat (first | refine kN_ ?_ _ | refine kD_ ?_ | refine kA_ ?_ _)); exact BK127.1) hb)
      have n3_ := Am_ (kB_ (g := gb128) (o := .cells #[.int .i64 a1_0, .int .i64 a1_1, .int .i64 a1_2, .int .i64 a1_3, .slice A1_4 l1_4.length c1_4] 41 (0, 0)) (by (with_reducible repeat (first | refine kN_ ?_ _ | refine kD_ ?_ | refine kA_ ?_ _)); exact BK128.1) hb)
      have n4_ := Am_ (bT_ (by repeat (first | (with_reducible first | exact HB.1 | apply bA_ | apply bN_ | apply bD_ | refine bS_ ?_ GE127.1 | refine bS_ ?_ GE128.1) | exact HB.1)) hb)
      clear HO137
      clear BK127
      clear BK128
      clear HB
      have HO137 := n0_
      have HO144 := n1_
      have BK127 := n2_
      have BK128 := n3_
      have HB := n4_
      clear n0_ n1_ n2_ n3_ n4_
      (try clear hb)
      (try clear hb2)
      (try clear hk)
      (try clear hi)
      (try clear ho0)
      obtain ⟨Ao72, co72, eo72⟩ := Kd.R_slice HO137.1
      (first | subst eo72 | (injection eo72 with f1_ f2_ f3_; have f4_ := f1_.symm; have f5_ := f3_.symm; clear f1_ f2_ f3_; subst f4_; subst f5_))
      obtain ⟨Ao73, co73, eo73⟩ := Kd.R_slice HO144.1
      (first | subst eo73 | (injection eo73 with f1_ f2_ f3_; have f4_ := f1_.symm; have f5_ := f3_.symm; clear f1_ f2_ f3_; subst f4_; subst f5_))
      refine hK.out _ _ ⟨kC_ BK127.1 0, kC_ BK127.1 1, kC_ BK127.1 2, kC_ BK127.1 3, kC_ BK127.1 4, kC_ BK128.1 0, kC_ BK128.1 1, kC_ BK128.1 2, kC_ BK128.1 3, kC_ BK128.1 4⟩ (fun hHeld => ?_)
      clear hK K
      refine norm_ (a' := ?_) ?_ ?_
      rotate_left
      ·show Act.put _ (some 23) _ = _
       simp only [Act.put, List.setIfInBounds_toArray, List.set_cons_zero, List.set_cons_succ, i64_w, i32_w]
       rfl
      refine one_ (i := 4) (N := some 24) #[true, true, true, true, true, false] rfl rfl (by kernel_rfl) (by decide) (fun K hK => ?_)
      refine goes_ Try.func27 (by kernel_rfl) rfl #[.agg #[.int .i64 t131, .int .i64 t132, .int .i64 t133, .int .i64 t134, .slice Ao72 t135.length co72], .agg #[.int .i64 t138, .int .i64 t139, .int .i64 t140, .int .i64 t141, .slice Ao73 t142.length co73]] (by rfl) rfl rfl (by (try simp only [List.map_toArray, List.map_cons, List.map_nil]); first | done | rfl | (simp only [List.length_drop, List.length_take]; rfl)) ?_
      with_reducible refine (spec_EqualMeshFrames.calls t131 t132 t133 t134 _ _ t135 t138 t139 t140 t141 _ _ t142 t145 _ ?side1 ?side2 ?side3 ?side4 A21.1).mono ?_
      (case side1 => repeat (first | exact (Kd.R_reads' HO137.1).2.2 | (with_reducible refine Kd.C_alloc ?_ _) | (with_reducible refine Kd.C_drewN ?_ _) | (with_reducible refine Kd.C_drew ?_)))
      (case side2 => exact (Kd.R_reads' HO137.1).2.1)
      (case side3 => repeat (first | exact (Kd.R_reads' HO144.1).2.2 | (with_reducible refine Kd.C_alloc ?_ _) | (with_reducible refine Kd.C_drewN ?_ _) | (with_reducible refine Kd.C_drew ?_)))
      (case side4 => exact (Kd.R_reads' HO144.1).2.1)
      rintro e w74 ⟨rfl, hb⟩
      refine ⟨_, rfl, ?_⟩
      have n0_ := Am_ (Kd.R_below (by (with_reducible repeat (first | apply rA_ | apply rN_ | apply rD_)); exact HO137.1) hb)
      have n1_ := Am_ (Kd.R_below (by (with_reducible repeat (first | apply rA_ | apply rN_ | apply rD_)); exact HO144.1) hb)
      have n2_ := Am_ (kB_ (g := gb127) (o := .cells #[.int .i64 a0_0, .int .i64 a0_1, .int .i64 a0_2, .int .i64 a0_3, .slice A0_4 l0_4.length c0_4] 41 (0, 0)) (by (with_reducible repeat (first | refine kN_ ?_ _ | refine kD_ ?_ | refine kA_ ?_ _)); exact BK127.1) hb)
      have n3_ := Am_ (kB_ (g := gb128) (o := .cells #[.int .i64 a1_0, .int .i64 a1_1, .int .i64 a1_2, .int .i64 a1_3, .slice A1_4 l1_4.length c1_4] 41 (0, 0)) (by (with_reducible repeat (first | refine kN_ ?_ _ | refine kD_ ?_ | refine kA_ ?_ _)); exact BK128.1) hb)
      have n4_ := Am_ (bT_ (by repeat (first | (with_reducible first | exact HB.1 | apply bA_ | apply bN_ | apply bD_ | refine bS_ ?_ GE127.1 | refine bS_ ?_ GE128.1) | exact HB.1)) hb)
      clear HO137
      clear HO144
      clear BK127
      clear BK128
      clear HB
      have HO137 := n0_
      have HO144 := n1_
      have BK127 := n2_
      have BK128 := n3_
      have HB := n4_
      clear n0_ n1_ n2_ n3_ n4_
      (try clear hb)
      (try clear hb2)
      (try clear hk)
      (try clear hi)
      refine hK.out _ _ ⟨kC_ BK127.1 0, kC_ BK127.1 1, kC_ BK127.1 2, kC_ BK127.1 3, kC_ BK127.1 4, kC_ BK128.1 0, kC_ BK128.1 1, kC_ BK128.1 2, kC_ BK128.1 3, kC_ BK128.1 4⟩ (fun hHeld => ?_)
      clear hK K
      refine norm_ (a' := ?_) ?_ ?_
      rotate_left
      ·show Act.put _ (some 24) _ = _
       simp only [Act.put, List.setIfInBounds_toArray, List.set_cons_zero, List.set_cons_succ, i64_w, i32_w]
       rfl
      refine pure_ (i := 5) (N := some 6) (v := ?_) (a' := ?_) #[true, true, true, true, true, true] rfl rfl (by kernel_rfl) (fun _ _ _ h => h) (Or.inl ⟨by rfl, ?_⟩) ?_ ?_
      rotate_left
      ·intro w'
       go_simp
       with_reducible rfl
      rotate_left
      ·simp only [Act.put, List.setIfInBounds_toArray, List.set_cons_zero, List.set_cons_succ, i64_w, i32_w]
       rfl
      refine done_ (by kernel_rfl) ?_
      have hcz75_0 : w74.cell? ⟨gb127, 0, none⟩ = some (.int .i64 a0_0) := kC_ BK127.1 0
      have hcz75_1 : w74.cell? ⟨gb127, 1, none⟩ = some (.int .i64 a0_1) := kC_ BK127.1 1
      have hcz75_2 : w74.cell? ⟨gb127, 2, none⟩ = some (.int .i64 a0_2) := kC_ BK127.1 2
      have hcz75_3 : w74.cell? ⟨gb127, 3, none⟩ = some (.int .i64 a0_3) := kC_ BK127.1 3
      have hcz75_4 : w74.cell? ⟨gb127, 4, none⟩ = some (.slice A0_4 l0_4.length c0_4) := kC_ BK127.1 4
      have hfz75_0 := kF_ BK127.1 0
      have hfz75_1 := kF_ BK127.1 1
      have hfz75_2 := kF_ BK127.1 2
      have hfz75_3 := kF_ BK127.1 3
      have hfz75_4 := kF_ BK127.1 4
      try go_wp2_with (first | ((with_reducible refine gate_callee (f := 28) rfl ?_); refine goesL_ (some 26) rfl rfl Try.func28 (by kernel_rfl) rfl #[.agg #[.int .i64 a0_0, .int .i64 a0_1, .int .i64 a0_2, .int .i64 a0_3, .slice A0_4 l0_4.length c0_4]] rfl (by (try simp only [List.map_toArray, List.map_cons, List.map_nil]); first | done | rfl | (simp only [List.length_drop, List.length_take]; rfl)) ?_; (with_reducible refine (laws_toMeshFrame.calls k a0_0 a0_1 a0_2 a0_3 _ _ l0_4 t146 t147 t148 t149 t150 _ ?side1 ?side2 A22.1).mono ?_); (case side1 => repeat (first | exact (Kd.C_below HR0_4.1 HB.1) | (with_reducible refine Kd.C_alloc ?_ _) | (with_reducible refine Kd.C_drewN ?_ _) | (with_reducible refine Kd.C_drew ?_))); (case side2 => exact HC0_4.1); rintro e w76 ⟨v151, rfl, ho0, hb⟩; refine ⟨_, rfl, ?_⟩; have n0_ := Am_ (Kd.R_elder' (by (with_reducible repeat (first | apply rA_ | apply rN_ | apply rD_)); exact HO137.1) (Kd.R_base ho0) hb); have n1_ := Am_ (Kd.R_elder' (by (with_reducible repeat (first | apply rA_ | apply rN_ | apply rD_)); exact HO144.1) (Kd.R_base ho0) hb); have n2_ := Am_ (Kd.R_lower (Kd.R_new' (Kd.R_new' ho0 (Kd.R_lt (by (with_reducible repeat (first | apply rA_ | apply rN_ | apply rD_)); exact HO137.1))) (Kd.R_lt (by (with_reducible repeat (first | apply rA_ | apply rN_ | apply rD_)); exact HO144.1))) (bZ_ (by repeat (first | (with_reducible first | exact HB.1 | apply bA_ | apply bN_ | apply bD_ | refine bS_ ?_ GE127.1 | refine bS_ ?_ GE128.1) | exact HB.1)))); have n3_ := Am_ (kB_ (g := gb127) (o := .cells #[.int .i64 a0_0, .int .i64 a0_1, .int .i64 a0_2, .int .i64 a0_3, .slice A0_4 l0_4.length c0_4] 41 (0, 0)) (by (with_reducible repeat (first | refine kN_ ?_ _ | refine kD_ ?_ | refine kA_ ?_ _)); exact BK127.1) hb); have n4_ := Am_ (kB_ (g := gb128) (o := .cells #[.int .i64 a1_0, .int .i64 a1_1, .int .i64 a1_2, .int .i64 a1_3, .slice A1_4 l1_4.length c1_4] 41 (0, 0)) (by (with_reducible repeat (first | refine kN_ ?_ _ | refine kD_ ?_ | refine kA_ ?_ _)); exact BK128.1) hb); have n5_ := Am_ (bT_ (by repeat (first | (with_reducible first | exact HB.1 | apply bA_ | apply bN_ | apply bD_ | refine bS_ ?_ GE127.1 | refine bS_ ?_ GE128.1) | exact HB.1)) hb); clear HO137 HO144 BK127 BK128 HB; have HO137 := n0_; have HO144 := n1_; have HO152 := n2_; have BK127 := n3_; have BK128 := n4_; have HB := n5_; clear n0_ n1_ n2_ n3_ n4_ n5_; (try clear hb); (try clear hb2); (try clear hk); (try clear hi); (try clear ho0)) | ((with_reducible refine gate_dst (N := 7) rfl ?_); refine box_event ?hg (N := 7) ?hd (cs := #[.int .i64 0, .int .i64 0, .int .i64 0, .int .i64 0, .slice none 0 0]) (t := 44) ?hr ?_; (case hd => rfl); (case hg => rfl); (case hr => first | (go_simp; done) | (go_simp; rfl)); intro gb153 hg w77 hbox hb; have n0_ := Am_ (Kd.R_below (by (with_reducible repeat (first | apply rA_ | apply rN_ | apply rD_)); exact HO137.1) hb); have n1_ := Am_ (Kd.R_below (by (with_reducible repeat (first | apply rA_ | apply rN_ | apply rD_)); exact HO144.1) hb); have n2_ := Am_ (Kd.R_below (by (with_reducible repeat (first | apply rA_ | apply rN_ | apply rD_)); exact HO152.1) hb); have n3_ := Am_ (kB_ (g := gb127) (o := .cells #[.int .i64 a0_0, .int .i64 a0_1, .int .i64 a0_2, .int .i64 a0_3, .slice A0_4 l0_4.length c0_4] 41 (0, 0)) (by (with_reducible repeat (first | refine kN_ ?_ _ | refine kD_ ?_ | refine kA_ ?_ _)); exact BK127.1) hb); have n4_ := Am_ (kB_ (g := gb128) (o := .cells #[.int .i64 a1_0, .int .i64 a1_1, .int .i64 a1_2, .int .i64 a1_3, .slice A1_4 l1_4.length c1_4] 41 (0, 0)) (by (with_reducible repeat (first | refine kN_ ?_ _ | refine kD_ ?_ | refine kA_ ?_ _)); exact BK128.1) hb); have n5_ := Am_ (bT_ (by repeat (first | (with_reducible first | exact HB.1 | apply bA_ | apply bN_ | apply bD_ | refine bS_ ?_ GE127.1 | refine bS_ ?_ GE128.1) | exact HB.1)) hb); have n6_ := Am_ (hbox); have n7_ := Am_ ((by rw [hg]; exact (bZ_ (by repeat (first | (with_reducible first | exact HB.1 | apply bA_ | apply bN_ | apply bD_ | refine bS_ ?_ GE127.1 | refine bS_ ?_ GE128.1) | exact HB.1))) : w.heap.size ≤ gb153)); have n8_ := Am_ ((by rw [hg]; exact (bZ_ (by repeat (first | (with_reducible first | exact HB.1 | apply bA_ | apply bN_ | apply bD_ | refine bS_ ?_ GE127.1 | refine bS_ ?_ GE128.1) | exact HB.1))) : w.heap.size ≤ gb153)); have n9_ := Am_ ((by rw [hg]; exact Nat.ne_of_lt (blk_lt (g := gb127) (o := .cells #[.int .i64 a0_0, .int .i64 a0_1, .int .i64 a0_2, .int .i64 a0_3, .slice A0_4 l0_4.length c0_4] 41 (0, 0)) (by (with_reducible repeat (first | refine kN_ ?_ _ | refine kD_ ?_ | refine kA_ ?_ _)); exact BK127.1)) : gb127 ≠ gb153)); have n10_ := Am_ ((by rw [hg]; exact Nat.ne_of_gt (blk_lt (g := gb127) (o := .cells #[.int .i64 a0_0, .int .i64 a0_1, .int .i64 a0_2, .int .i64 a0_3, .slice A0_4 l0_4.length c0_4] 41 (0, 0)) (by (with_reducible repeat (first | refine kN_ ?_ _ | refine kD_ ?_ | refine kA_ ?_ _)); exact BK127.1)) : gb153 ≠ gb127)); have n11_ := Am_ ((by rw [hg]; exact Nat.ne_of_lt (blk_lt (g := gb128) (o := .cells #[.int .i64 a1_0, .int .i64 a1_1, .int .i64 a1_2, .int .i64 a1_3, .slice A1_4 l1_4.length c1_4] 41 (0, 0)) (by (with_reducible repeat (first | refine kN_ ?_ _ | refine kD_ ?_ | refine kA_ ?_ _)); exact BK128.1)) : gb128 ≠ gb153)); have n12_ := Am_ ((by rw [hg]; exact Nat.ne_of_gt (blk_lt (g := gb128) (o := .cells #[.int .i64 a1_0, .int .i64 a1_1, .int .i64 a1_2, .int .i64 a1_3, .slice A1_4 l1_4.length c1_4] 41 (0, 0)) (by (with_reducible repeat (first | refine kN_ ?_ _ | refine kD_ ?_ | refine kA_ ?_ _)); exact BK128.1)) : gb153 ≠ gb128)); clear HO137 HO144 HO152 BK127 BK128 HB; have HO137 := n0_; have HO144 := n1_; have HO152 := n2_; have BK127 := n3_; have BK128 := n4_; have HB := n5_; have BK153 := n6_; have GW153 := n7_; have GE153 := n8_; have NB127_153 := n9_; have NB153_127 := n10_; have NB128_153 := n11_; have NB153_128 := n12_; clear n0_ n1_ n2_ n3_ n4_ n5_ n6_ n7_ n8_ n9_ n10_ n11_ n12_ hb hbox hg; have hnb78 := NB153_127.1; have hnc78 := NB127_153.1; have hnb79 := NB153_128.1; have hnc79 := NB128_153.1; have hcz80_0 : w77.cell? ⟨gb153, 0, none⟩ = some (.int .i64 0) := kC_ BK153.1 0; have hcz80_1 : w77.cell? ⟨gb153, 1, none⟩ = some (.int .i64 0) := kC_ BK153.1 1; have hcz80_2 : w77.cell? ⟨gb153, 2, none⟩ = some (.int .i64 0) := kC_ BK153.1 2; have hcz80_3 : w77.cell? ⟨gb153, 3, none⟩ = some (.int .i64 0) := kC_ BK153.1 3; have hcz80_4 : w77.cell? ⟨gb153, 4, none⟩ = some (.slice none 0 0) := kC_ BK153.1 4; have hfz80_0 := kF_ BK153.1 0; have hfz80_1 := kF_ BK153.1 1; have hfz80_2 := kF_ BK153.1 2; have hfz80_3 := kF_ BK153.1 3; have hfz80_4 := kF_ BK153.1 4; obtain ⟨Ao81, co81, eo81⟩ := Kd.R_slice HO152.1; subst eo81; have hcz82_0 : w77.cell? ⟨gb128, 0, none⟩ = some (.int .i64 a1_0) := kC_ BK128.1 0; have hcz82_1 : w77.cell? ⟨gb128, 1, none⟩ = some (.int .i64 a1_1) := kC_ BK128.1 1; have hcz82_2 : w77.cell? ⟨gb128, 2, none⟩ = some (.int .i64 a1_2) := kC_ BK128.1 2; have hcz82_3 : w77.cell? ⟨gb128, 3, none⟩ = some (.int .i64 a1_3) := kC_ BK128.1 3; have hcz82_4 : w77.cell? ⟨gb128, 4, none⟩ = some (.slice A1_4 l1_4.length c1_4) := kC_ BK128.1 4; have hfz82_0 := kF_ BK128.1 0; have hfz82_1 := kF_ BK128.1 1; have hfz82_2 := kF_ BK128.1 2; have hfz82_3 := kF_ BK128.1 3; have hfz82_4 := kF_ BK128.1 4) | ((with_reducible refine gate_callee (f := 28) rfl ?_); refine goesL_ (some 28) rfl rfl Try.func28 (by kernel_rfl) rfl #[.agg #[.int .i64 a1_0, .int .i64 a1_1, .int .i64 a1_2, .int .i64 a1_3, .slice A1_4 l1_4.length c1_4]] rfl (by (try simp only [List.map_toArray, List.map_cons, List.map_nil]); first | done | rfl | (simp only [List.length_drop, List.length_take]; rfl)) ?_; (with_reducible refine (laws_toMeshFrame.calls k a1_0 a1_1 a1_2 a1_3 _ _ l1_4 t154 t155 t156 t157 t158 _ ?side1 ?side2 A23.1).mono ?_); (case side1 => exact Kd.C_below HR1_4.1 (by repeat (first | (with_reducible first | exact HB.1 | apply bA_ | apply bN_ | apply bD_ | refine bS_ ?_ GE127.1 | refine bS_ ?_ GE128.1 | refine bS_ ?_ GE153.1) | exact HB.1))); (case side2 => exact HC1_4.1); rintro e w83 ⟨v159, rfl, ho0, hb⟩; refine ⟨_, rfl, ?_⟩; have n0_ := Am_ (Kd.R_elder' (by (with_reducible repeat (first | apply rA_ | apply rN_ | apply rD_)); exact (Kd.R_mono (rF_ (p := ⟨gb153, 4, none⟩) (rF_ (p := ⟨gb153, 3, none⟩) (rF_ (p := ⟨gb153, 2, none⟩) (rF_ (p := ⟨gb153, 1, none⟩) (rF_ (p := ⟨gb153, 0, none⟩) (Kd.R_types HO137.1 BK153.1 (by decide)) (fun _ hk => hk.2) (.int .i64 t146)) (fun _ hk => hk.2) (.int .i64 t147)) (fun _ hk => hk.2) (.int .i64 t148)) (fun _ hk => hk.2) (.int .i64 t149)) (fun _ hk => hk.2) (.slice Ao81 t150.length co81)) (fun _ h_ => h_.1))) (Kd.R_base ho0) hb); have n1_ := Am_ (Kd.R_elder' (by (with_reducible repeat (first | apply rA_ | apply rN_ | apply rD_)); exact (Kd.R_mono (rF_ (p := ⟨gb153, 4, none⟩) (rF_ (p := ⟨gb153, 3, none⟩) (rF_ (p := ⟨gb153, 2, none⟩) (rF_ (p := ⟨gb153, 1, none⟩) (rF_ (p := ⟨gb153, 0, none⟩) (Kd.R_types HO144.1 BK153.1 (by decide)) (fun _ hk => hk.2) (.int .i64 t146)) (fun _ hk => hk.2) (.int .i64 t147)) (fun _ hk => hk.2) (.int .i64 t148)) (fun _ hk => hk.2) (.int .i64 t149)) (fun _ hk => hk.2) (.slice Ao81 t150.length co81)) (fun _ h_ => h_.1))) (Kd.R_base ho0) hb); have n2_ := Am_ (Kd.R_elder' (by (with_reducible repeat (first | apply rA_ | apply rN_ | apply rD_)); exact (Kd.R_mono (rF_ (p := ⟨gb153, 4, none⟩) (rF_ (p := ⟨gb153, 3, none⟩) (rF_ (p := ⟨gb153, 2, none⟩) (rF_ (p := ⟨gb153, 1, none⟩) (rF_ (p := ⟨gb153, 0, none⟩) (Kd.R_types HO152.1 BK153.1 (by decide)) (fun _ hk => hk.2) (.int .i64 t146)) (fun _ hk => hk.2) (.int .i64 t147)) (fun _ hk => hk.2) (.int .i64 t148)) (fun _ hk => hk.2) (.int .i64 t149)) (fun _ hk => hk.2) (.slice Ao81 t150.length co81)) (fun _ h_ => h_.1))) (Kd.R_base ho0) hb); have n3_ := Am_ (Kd.R_lower (Kd.R_new' (Kd.R_new' (Kd.R_new' ho0 (Kd.R_lt (by (with_reducible repeat (first | apply rA_ | apply rN_ | apply rD_)); exact (Kd.R_mono (rF_ (p := ⟨gb153, 4, none⟩) (rF_ (p := ⟨gb153, 3, none⟩) (rF_ (p := ⟨gb153, 2, none⟩) (rF_ (p := ⟨gb153, 1, none⟩) (rF_ (p := ⟨gb153, 0, none⟩) (Kd.R_types HO137.1 BK153.1 (by decide)) (fun _ hk => hk.2) (.int .i64 t146)) (fun _ hk => hk.2) (.int .i64 t147)) (fun _ hk => hk.2) (.int .i64 t148)) (fun _ hk => hk.2) (.int .i64 t149)) (fun _ hk => hk.2) (.slice Ao81 t150.length co81)) (fun _ h_ => h_.1))))) (Kd.R_lt (by (with_reducible repeat (first | apply rA_ | apply rN_ | apply rD_)); exact (Kd.R_mono (rF_ (p := ⟨gb153, 4, none⟩) (rF_ (p := ⟨gb153, 3, none⟩) (rF_ (p := ⟨gb153, 2, none⟩) (rF_ (p := ⟨gb153, 1, none⟩) (rF_ (p := ⟨gb153, 0, none⟩) (Kd.R_types HO144.1 BK153.1 (by decide)) (fun _ hk => hk.2) (.int .i64 t146)) (fun _ hk => hk.2) (.int .i64 t147)) (fun _ hk => hk.2) (.int .i64 t148)) (fun _ hk => hk.2) (.int .i64 t149)) (fun _ hk => hk.2) (.slice Ao81 t150.length co81)) (fun _ h_ => h_.1))))) (Kd.R_lt (by (with_reducible repeat (first | apply rA_ | apply rN_ | apply rD_)); exact (Kd.R_mono (rF_ (p := ⟨gb153, 4, none⟩) (rF_ (p := ⟨gb153, 3, none⟩) (rF_ (p := ⟨gb153, 2, none⟩) (rF_ (p := ⟨gb153, 1, none⟩) (rF_ (p := ⟨gb153, 0, none⟩) (Kd.R_types HO152.1 BK153.1 (by decide)) (fun _ hk => hk.2) (.int .i64 t146)) (fun _ hk => hk.2) (.int .i64 t147)) (fun _ hk => hk.2) (.int .i64 t148)) (fun _ hk => hk.2) (.int .i64 t149)) (fun _ hk => hk.2) (.slice Ao81 t150.length co81)) (fun _ h_ => h_.1))))) (bZ_ (by repeat (first | (with_reducible first | exact HB.1 | apply bA_ | apply bN_ | apply bD_ | refine bS_ ?_ GE127.1 | refine bS_ ?_ GE128.1 | refine bS_ ?_ GE153.1) | exact HB.1)))); have n4_ := Am_ (kB_ (g := gb127) (o := .cells #[.int .i64 a0_0, .int .i64 a0_1, .int .i64 a0_2, .int .i64 a0_3, .slice A0_4 l0_4.length c0_4] 41 (0, 0)) (by (with_reducible repeat (first | refine kN_ ?_ _ | refine kD_ ?_ | refine kA_ ?_ _)); refine blk_far ?_ NB127_153.1 _; (with_reducible repeat (first | refine kN_ ?_ _ | refine kD_ ?_ | refine kA_ ?_ _)); refine blk_far ?_ NB127_153.1 _; (with_reducible repeat (first | refine kN_ ?_ _ | refine kD_ ?_ | refine kA_ ?_ _)); refine blk_far ?_ NB127_153.1 _; (with_reducible repeat (first | refine kN_ ?_ _ | refine kD_ ?_ | refine kA_ ?_ _)); refine blk_far ?_ NB127_153.1 _; (with_reducible repeat (first | refine kN_ ?_ _ | refine kD_ ?_ | refine kA_ ?_ _)); refine blk_far ?_ NB127_153.1 _; (with_reducible repeat (first | refine kN_ ?_ _ | refine kD_ ?_ | refine kA_ ?_ _)); exact BK127.1) hb); have n5_ := Am_ (kB_ (g := gb128) (o := .cells #[.int .i64 a1_0, .int .i64 a1_1, .int .i64 a1_2, .int .i64 a1_3, .slice A1_4 l1_4.length c1_4] 41 (0, 0)) (by (with_reducible repeat (first | refine kN_ ?_ _ | refine kD_ ?_ | refine kA_ ?_ _)); refine blk_far ?_ NB128_153.1 _; (with_reducible repeat (first | refine kN_ ?_ _ | refine kD_ ?_ | refine kA_ ?_ _)); refine blk_far ?_ NB128_153.1 _; (with_reducible repeat (first | refine kN_ ?_ _ | refine kD_ ?_ | refine kA_ ?_ _)); refine blk_far ?_ NB128_153.1 _; (with_reducible repeat (first | refine kN_ ?_ _ | refine kD_ ?_ | refine kA_ ?_ _)); refine blk_far ?_ NB128_153.1 _; (with_reducible repeat (first | refine kN_ ?_ _ | refine kD_ ?_ | refine kA_ ?_ _)); refine blk_far ?_ NB128_153.1 _; (with_reducible repeat (first | refine kN_ ?_ _ | refine kD_ ?_ | refine kA_ ?_ _)); exact BK128.1) hb); have n6_ := Am_ (kB_ (g := gb153) (o := .cells #[.int .i64 t146, .int .i64 t147, .int .i64 t148, .int .i64 t149, .slice Ao81 t150.length co81] 44 (0, 0)) (by (with_reducible repeat (first | refine kN_ ?_ _ | refine kD_ ?_ | refine kA_ ?_ _)); refine blk_put (cs := #[.int .i64 t146, .int .i64 t147, .int .i64 t148, .int .i64 t149, .slice none 0 0]) ?_ 4 _ rfl; (with_reducible repeat (first | refine kN_ ?_ _ | refine kD_ ?_ | refine kA_ ?_ _)); refine blk_put (cs := #[.int .i64 t146, .int .i64 t147, .int .i64 t148, .int .i64 0, .slice none 0 0]) ?_ 3 _ rfl; (with_reducible repeat (first | refine kN_ ?_ _ | refine kD_ ?_ | refine kA_ ?_ _)); refine blk_put (cs := #[.int .i64 t146, .int .i64 t147, .int .i64 0, .int .i64 0, .slice none 0 0]) ?_ 2 _ rfl; (with_reducible repeat (first | refine kN_ ?_ _ | refine kD_ ?_ | refine kA_ ?_ _)); refine blk_put (cs := #[.int .i64 t146, .int .i64 0, .int .i64 0, .int .i64 0, .slice none 0 0]) ?_ 1 _ rfl; (with_reducible repeat (first | refine kN_ ?_ _ | refine kD_ ?_ | refine kA_ ?_ _)); refine blk_put (cs := #[.int .i64 0, .int .i64 0, .int .i64 0, .int .i64 0, .slice none 0 0]) ?_ 0 _ rfl; (with_reducible repeat (first | refine kN_ ?_ _ | refine kD_ ?_ | refine kA_ ?_ _)); exact BK153.1) hb); have n7_ := Am_ (bT_ (by repeat (first | (with_reducible first | exact HB.1 | apply bA_ | apply bN_ | apply bD_ | refine bS_ ?_ GE127.1 | refine bS_ ?_ GE128.1 | refine bS_ ?_ GE153.1) | exact HB.1)) hb); clear HO137 HO144 HO152 BK127 BK128 BK153 HB; have HO137 := n0_; have HO144 := n1_; have HO152 := n2_; have HO160 := n3_; have BK127 := n4_; have BK128 := n5_; have BK153 := n6_; have HB := n7_; clear n0_ n1_ n2_ n3_ n4_ n5_ n6_ n7_; (try clear hb); (try clear hb2); (try clear hk); (try clear hi); (try clear ho0)) | ((with_reducible refine gate_dst (N := 8) rfl ?_); refine box_event ?hg (N := 8) ?hd (cs := #[.int .i64 0, .int .i64 0, .int .i64 0, .int .i64 0, .slice none 0 0]) (t := 44) ?hr ?_; (case hd => rfl); (case hg => rfl); (case hr => first | (go_simp; done) | (go_simp; rfl)); intro gb161 hg w84 hbox hb; have n0_ := Am_ (Kd.R_below (by (with_reducible repeat (first | apply rA_ | apply rN_ | apply rD_)); exact HO137.1) hb); have n1_ := Am_ (Kd.R_below (by (with_reducible repeat (first | apply rA_ | apply rN_ | apply rD_)); exact HO144.1) hb); have n2_ := Am_ (Kd.R_below (by (with_reducible repeat (first | apply rA_ | apply rN_ | apply rD_)); exact HO152.1) hb); have n3_ := Am_ (Kd.R_below (by (with_reducible repeat (first | apply rA_ | apply rN_ | apply rD_)); exact HO160.1) hb); have n4_ := Am_ (kB_ (g := gb127) (o := .cells #[.int .i64 a0_0, .int .i64 a0_1, .int .i64 a0_2, .int .i64 a0_3, .slice A0_4 l0_4.length c0_4] 41 (0, 0)) (by (with_reducible repeat (first | refine kN_ ?_ _ | refine kD_ ?_ | refine kA_ ?_ _)); exact BK127.1) hb); have n5_ := Am_ (kB_ (g := gb128) (o := .cells #[.int .i64 a1_0, .int .i64 a1_1, .int .i64 a1_2, .int .i64 a1_3, .slice A1_4 l1_4.length c1_4] 41 (0, 0)) (by (with_reducible repeat (first | refine kN_ ?_ _ | refine kD_ ?_ | refine kA_ ?_ _)); exact BK128.1) hb); have n6_ := Am_ (kB_ (g := gb153) (o := .cells #[.int .i64 t146, .int .i64 t147, .int .i64 t148, .int .i64 t149, .slice Ao81 t150.length co81] 44 (0, 0)) (by (with_reducible repeat (first | refine kN_ ?_ _ | refine kD_ ?_ | refine kA_ ?_ _)); exact BK153.1) hb); have n7_ := Am_ (bT_ (by repeat (first | (with_reducible first | exact HB.1 | apply bA_ | apply bN_ | apply bD_ | refine bS_ ?_ GE127.1 | refine bS_ ?_ GE128.1 | refine bS_ ?_ GE153.1) | exact HB.1)) hb); have n8_ := Am_ (hbox); have n9_ := Am_ ((by rw [hg]; exact (bZ_ (by repeat (first | (with_reducible first | exact HB.1 | apply bA_ | apply bN_ | apply bD_ | refine bS_ ?_ GE127.1 | refine bS_ ?_ GE128.1 | refine bS_ ?_ GE153.1) | exact HB.1))) : w.heap.size ≤ gb161)); have n10_ := Am_ ((by rw [hg]; exact (bZ_ (by repeat (first | (with_reducible first | exact HB.1 | apply bA_ | apply bN_ | apply bD_ | refine bS_ ?_ GE127.1 | refine bS_ ?_ GE128.1 | refine bS_ ?_ GE153.1) | exact HB.1))) : w.heap.size ≤ gb161)); have n11_ := Am_ ((by rw [hg]; exact Nat.ne_of_lt (blk_lt (g := gb127) (o := .cells #[.int .i64 a0_0, .int .i64 a0_1, .int .i64 a0_2, .int .i64 a0_3, .slice A0_4 l0_4.length c0_4] 41 (0, 0)) (by (with_reducible repeat (first | refine kN_ ?_ _ | refine kD_ ?_ | refine kA_ ?_ _)); exact BK127.1)) : gb127 ≠ gb161)); have n12_ := Am_ ((by rw [hg]; exact Nat.ne_of_gt (blk_lt (g := gb127) (o := .cells #[.int .i64 a0_0, .int .i64 a0_1, .int .i64 a0_2, .int .i64 a0_3, .slice A0_4 l0_4.length c0_4] 41 (0, 0)) (by (with_reducible repeat (first | refine kN_ ?_ _ | refine kD_ ?_ | refine kA_ ?_ _)); exact BK127.1)) : gb161 ≠ gb127)); have n13_ := Am_ ((by rw [hg]; exact Nat.ne_of_lt (blk_lt (g := gb128) (o := .cells #[.int .i64 a1_0, .int .i64 a1_1, .int .i64 a1_2, .int .i64 a1_3, .slice A1_4 l1_4.length c1_4] 41 (0, 0)) (by (with_reducible repeat (first | refine kN_ ?_ _ | refine kD_ ?_ | refine kA_ ?_ _)); exact BK128.1)) : gb128 ≠ gb161)); have n14_ := Am_ ((by rw [hg]; exact Nat.ne_of_gt (blk_lt (g := gb128) (o := .cells #[.int .i64 a1_0, .int .i64 a1_1, .int .i64 a1_2, .int .i64 a1_3, .slice A1_4 l1_4.length c1_4] 41 (0, 0)) (by (with_reducible repeat (first | refine kN_ ?_ _ | refine kD_ ?_ | refine kA_ ?_ _)); exact BK128.1)) : gb161 ≠ gb128)); have n15_ := Am_ ((by rw [hg]; exact Nat.ne_of_lt (blk_lt (g := gb153) (o := .cells #[.int .i64 t146, .int .i64 t147, .int .i64 t148, .int .i64 t149, .slice Ao81 t150.length co81] 44 (0, 0)) (by (with_reducible repeat (first | refine kN_ ?_ _ | refine kD_ ?_ | refine kA_ ?_ _)); exact BK153.1)) : gb153 ≠ gb161)); have n16_ := Am_ ((by rw [hg]; exact Nat.ne_of_gt (blk_lt (g := gb153) (o := .cells #[.int .i64 t146, .int .i64 t147, .int .i64 t148, .int .i64 t149, .slice Ao81 t150.length co81] 44 (0, 0)) (by (with_reducible repeat (first | refine kN_ ?_ _ | refine kD_ ?_ | refine kA_ ?_ _)); exact BK153.1)) : gb161 ≠ gb153)); clear HO137 HO144 HO152 HO160 BK127 BK128 BK153 HB; have HO137 := n0_; have HO144 := n1_; have HO152 := n2_; have HO160 := n3_; have BK127 := n4_; have BK128 := n5_; have BK153 := n6_; have HB := n7_; have BK161 := n8_; have GW161 := n9_; have GE161 := n10_; have NB127_161 := n11_; have NB161_127 := n12_; have NB128_161 := n13_; have NB161_128 := n14_; have NB153_161 := n15_; have NB161_153 := n16_; clear n0_ n1_ n2_ n3_ n4_ n5_ n6_ n7_ n8_ n9_ n10_ n11_ n12_ n13_ n14_ n15_ n16_ hb hbox hg; have hnb85 := NB161_127.1; have hnc85 := NB127_161.1; have hnb86 := NB161_128.1; have hnc86 := NB128_161.1; have hnb87 := NB161_153.1; have hnc87 := NB153_161.1; have hcz88_0 : w84.cell? ⟨gb161, 0, none⟩ = some (.int .i64 0) := kC_ BK161.1 0; have hcz88_1 : w84.cell? ⟨gb161, 1, none⟩ = some (.int .i64 0) := kC_ BK161.1 1; have hcz88_2 : w84.cell? ⟨gb161, 2, none⟩ = some (.int .i64 0) := kC_ BK161.1 2; have hcz88_3 : w84.cell? ⟨gb161, 3, none⟩ = some (.int .i64 0) := kC_ BK161.1 3; have hcz88_4 : w84.cell? ⟨gb161, 4, none⟩ = some (.slice none 0 0) := kC_ BK161.1 4; have hfz88_0 := kF_ BK161.1 0; have hfz88_1 := kF_ BK161.1 1; have hfz88_2 := kF_ BK161.1 2; have hfz88_3 := kF_ BK161.1 3; have hfz88_4 := kF_ BK161.1 4; obtain ⟨Ao89, co89, eo89⟩ := Kd.R_slice HO160.1; subst eo89; have hcz90_0 : w84.cell? ⟨gb153, 0, none⟩ = some (.int .i64 t146) := kC_ BK153.1 0; have hcz90_1 : w84.cell? ⟨gb153, 1, none⟩ = some (.int .i64 t147) := kC_ BK153.1 1; have hcz90_2 : w84.cell? ⟨gb153, 2, none⟩ = some (.int .i64 t148) := kC_ BK153.1 2; have hcz90_3 : w84.cell? ⟨gb153, 3, none⟩ = some (.int .i64 t149) := kC_ BK153.1 3; have hcz90_4 : w84.cell? ⟨gb153, 4, none⟩ = some (.slice Ao81 t150.length co81) := kC_ BK153.1 4; have hfz90_0 := kF_ BK153.1 0; have hfz90_1 := kF_ BK153.1 1; have hfz90_2 := kF_ BK153.1 2; have hfz90_3 := kF_ BK153.1 3; have hfz90_4 := kF_ BK153.1 4) | ((with_reducible refine gate_callee (f := 29) rfl ?_); refine goesL_ (some 31) rfl rfl Try.func29 (by kernel_rfl) rfl #[.agg #[.int .i64 t146, .int .i64 t147, .int .i64 t148, .int .i64 t149, .slice Ao81 t150.length co81], .agg #[.int .i64 t154, .int .i64 t155, .int .i64 t156, .int .i64 t157, .slice Ao89 t158.length co89]] rfl (by (try simp only [List.map_toArray, List.map_cons, List.map_nil]); first | done | rfl | (simp only [List.length_drop, List.length_take]; rfl)) ?_; (with_reducible refine (impl_EqualMeshFrames.calls k t146 t147 t148 t149 _ _ t150 t154 t155 t156 t157 _ _ t158 t162 _ ?side1 ?side2 ?side3 ?side4 A24.1).mono ?_); (case side1 => refine (Kd.R_reads' (e := 5) (base := w.heap.size) (ok := fun k_ => (((True ∧ some k_ ≠ (.slice Ao72 t135.length co72 : Value).ownBlock) ∧ some k_ ≠ (.slice Ao73 t142.length co73 : Value).ownBlock) ∧ some k_ ≠ (.slice Ao89 t158.length co89 : Value).ownBlock)) (n := t150.length) (c := co81) ?_).2.2; exact (by (with_reducible repeat (first | apply rA_ | apply rN_ | apply rD_)); exact (Kd.R_mono (rF_ (p := ⟨gb161, 4, none⟩) (rF_ (p := ⟨gb161, 3, none⟩) (rF_ (p := ⟨gb161, 2, none⟩) (rF_ (p := ⟨gb161, 1, none⟩) (rF_ (p := ⟨gb161, 0, none⟩) (Kd.R_types HO152.1 BK161.1 (by decide)) (fun _ hk => hk.2) (.int .i64 t154)) (fun _ hk => hk.2) (.int .i64 t155)) (fun _ hk => hk.2) (.int .i64 t156)) (fun _ hk => hk.2) (.int .i64 t157)) (fun _ hk => hk.2) (.slice Ao89 t158.length co89)) (fun _ h_ => h_.1)))); (case side2 => exact (Kd.R_reads' HO152.1).2.1); (case side3 => refine (Kd.R_reads' (e := 5) (base := w.heap.size) (ok := fun k_ => (((True ∧ some k_ ≠ (.slice Ao72 t135.length co72 : Value).ownBlock) ∧ some k_ ≠ (.slice Ao73 t142.length co73 : Value).ownBlock) ∧ some k_ ≠ (.slice Ao81 t150.length co81 : Value).ownBlock)) (n := t158.length) (c := co89) ?_).2.2; exact (by (with_reducible repeat (first | apply rA_ | apply rN_ | apply rD_)); exact (Kd.R_mono (rF_ (p := ⟨gb161, 4, none⟩) (rF_ (p := ⟨gb161, 3, none⟩) (rF_ (p := ⟨gb161, 2, none⟩) (rF_ (p := ⟨gb161, 1, none⟩) (rF_ (p := ⟨gb161, 0, none⟩) (Kd.R_types HO160.1 BK161.1 (by decide)) (fun _ hk => hk.2) (.int .i64 t154)) (fun _ hk => hk.2) (.int .i64 t155)) (fun _ hk => hk.2) (.int .i64 t156)) (fun _ hk => hk.2) (.int .i64 t157)) (fun _ hk => hk.2) (.slice Ao89 t158.length co89)) (fun _ h_ => h_.1)))); (case side4 => exact (Kd.R_reads' HO160.1).2.1); rintro e w91 ⟨rfl, hb⟩; refine ⟨_, rfl, ?_⟩; have n0_ := Am_ (Kd.R_below (by (with_reducible repeat (first | apply rA_ | apply rN_ | apply rD_)); exact (Kd.R_mono (rF_ (p := ⟨gb161, 4, none⟩) (rF_ (p := ⟨gb161, 3, none⟩) (rF_ (p := ⟨gb161, 2, none⟩) (rF_ (p := ⟨gb161, 1, none⟩) (rF_ (p := ⟨gb161, 0, none⟩) (Kd.R_types HO137.1 BK161.1 (by decide)) (fun _ hk => hk.2) (.int .i64 t154)) (fun _ hk => hk.2) (.int .i64 t155)) (fun _ hk => hk.2) (.int .i64 t156)) (fun _ hk => hk.2) (.int .i64 t157)) (fun _ hk => hk.2) (.slice Ao89 t158.length co89)) (fun _ h_ => h_.1))) hb); have n1_ := Am_ (Kd.R_below (by (with_reducible repeat (first | apply rA_ | apply rN_ | apply rD_)); exact (Kd.R_mono (rF_ (p := ⟨gb161, 4, none⟩) (rF_ (p := ⟨gb161, 3, none⟩) (rF_ (p := ⟨gb161, 2, none⟩) (rF_ (p := ⟨gb161, 1, none⟩) (rF_ (p := ⟨gb161, 0, none⟩) (Kd.R_types HO144.1 BK161.1 (by decide)) (fun _ hk => hk.2) (.int .i64 t154)) (fun _ hk => hk.2) (.int .i64 t155)) (fun _ hk => hk.2) (.int .i64 t156)) (fun _ hk => hk.2) (.int .i64 t157)) (fun _ hk => hk.2) (.slice Ao89 t158.length co89)) (fun _ h_ => h_.1))) hb); have n2_ := Am_ (Kd.R_below (by (with_reducible repeat (first | apply rA_ | apply rN_ | apply rD_)); exact (Kd.R_mono (rF_ (p := ⟨gb161, 4, none⟩) (rF_ (p := ⟨gb161, 3, none⟩) (rF_ (p := ⟨gb161, 2, none⟩) (rF_ (p := ⟨gb161, 1, none⟩) (rF_ (p := ⟨gb161, 0, none⟩) (Kd.R_types HO152.1 BK161.1 (by decide)) (fun _ hk => hk.2) (.int .i64 t154)) (fun _ hk => hk.2) (.int .i64 t155)) (fun _ hk => hk.2) (.int .i64 t156)) (fun _ hk => hk.2) (.int .i64 t157)) (fun _ hk => hk.2) (.slice Ao89 t158.length co89)) (fun _ h_ => h_.1))) hb); have n3_ := Am_ (Kd.R_below (by (with_reducible repeat (first | apply rA_ | apply rN_ | apply rD_)); exact (Kd.R_mono (rF_ (p := ⟨gb161, 4, none⟩) (rF_ (p := ⟨gb161, 3, none⟩) (rF_ (p := ⟨gb161, 2, none⟩) (rF_ (p := ⟨gb161, 1, none⟩) (rF_ (p := ⟨gb161, 0, none⟩) (Kd.R_types HO160.1 BK161.1 (by decide)) (fun _ hk => hk.2) (.int .i64 t154)) (fun _ hk => hk.2) (.int .i64 t155)) (fun _ hk => hk.2) (.int .i64 t156)) (fun _ hk => hk.2) (.int .i64 t157)) (fun _ hk => hk.2) (.slice Ao89 t158.length co89)) (fun _ h_ => h_.1))) hb); have n4_ := Am_ (kB_ (g := gb127) (o := .cells #[.int .i64 a0_0, .int .i64 a0_1, .int .i64 a0_2, .int .i64 a0_3, .slice A0_4 l0_4.length c0_4] 41 (0, 0)) (by (with_reducible repeat (first | refine kN_ ?_ _ | refine kD_ ?_ | refine kA_ ?_ _)); refine blk_far ?_ NB127_161.1 _; (with_reducible repeat (first | refine kN_ ?_ _ | refine kD_ ?_ | refine kA_ ?_ _)); refine blk_far ?_ NB127_161.1 _; (with_reducible repeat (first | refine kN_ ?_ _ | refine kD_ ?_ | refine kA_ ?_ _)); refine blk_far ?_ NB127_161.1 _; (with_reducible repeat (first | refine kN_ ?_ _ | refine kD_ ?_ | refine kA_ ?_ _)); refine blk_far ?_ NB127_161.1 _; (with_reducible repeat (first | refine kN_ ?_ _ | refine kD_ ?_ | refine kA_ ?_ _)); refine blk_far ?_ NB127_161.1 _; (with_reducible repeat (first | refine kN_ ?_ _ | refine kD_ ?_ | refine kA_ ?_ _)); exact BK127.1) hb); have n5_ := Am_ (kB_ (g := gb128) (o := .cells #[.int .i64 a1_0, .int .i64 a1_1, .int .i64 a1_2, .int .i64 a1_3, .slice A1_4 l1_4.length c1_4] 41 (0, 0)) (by (with_reducible repeat (first | refine kN_ ?_ _ | refine kD_ ?_ | refine kA_ ?_ _)); refine blk_far ?_ NB128_161.1 _; (with_reducible repeat (first | refine kN_ ?_ _ | refine kD_ ?_ | refine kA_ ?_ _)); refine blk_far ?_ NB128_161.1 _; (with_reducible repeat (first | refine kN_ ?_ _ | refine kD_ ?_ | refine kA_ ?_ _)); refine blk_far ?_ NB128_161.1 _; (with_reducible repeat (first | refine kN_ ?_ _ | refine kD_ ?_ | refine kA_ ?_ _)); refine blk_far ?_ NB128_161.1 _; (with_reducible repeat (first | refine kN_ ?_ _ | refine kD_ ?_ | refine kA_ ?_ _)); refine blk_far ?_ NB128_161.1 _; (with_reducible repeat (first | refine kN_ ?_ _ | refine kD_ ?_ | refine kA_ ?_ _)); exact BK128.1) hb); have n6_ := Am_ (kB_ (g := gb153) (o := .cells #[.int .i64 t146, .int .i64 t147, .int .i64 t148, .int .i64 t149, .slice Ao81 t150.length co81] 44 (0, 0)) (by (with_reducible repeat (first | refine kN_ ?_ _ | refine kD_ ?_ | refine kA_ ?_ _)); refine blk_far ?_ NB153_161.1 _; (with_reducible repeat (first | refine kN_ ?_ _ | refine kD_ ?_ | refine kA_ ?_ _)); refine blk_far ?_ NB153_161.1 _; (with_reducible repeat (first | refine kN_ ?_ _ | refine kD_ ?_ | refine kA_ ?_ _)); refine blk_far ?_ NB153_161.1 _; (with_reducible repeat (first | refine kN_ ?_ _ | refine kD_ ?_ | refine kA_ ?_ _)); refine blk_far ?_ NB153_161.1 _; (with_reducible repeat (first | refine kN_ ?_ _ | refine kD_ ?_ | refine kA_ ?_ _)); refine blk_far ?_ NB153_161.1 _; (with_reducible repeat (first | refine kN_ ?_ _ | refine kD_ ?_ | refine kA_ ?_ _)); exact BK153.1) hb); have n7_ := Am_ (kB_ (g := gb161) (o := .cells #[.int .i64 t154, .int .i64 t155, .int .i64 t156, .int .i64 t157, .slice Ao89 t158.length co89] 44 (0, 0)) (by (with_reducible repeat (first | refine kN_ ?_ _ | refine kD_ ?_ | refine kA_ ?_ _)); refine blk_put (cs := #[.int .i64 t154, .int .i64 t155, .int .i64 t156, .int .i64 t157, .slice none 0 0]) ?_ 4 _ rfl; (with_reducible repeat (first | refine kN_ ?_ _ | refine kD_ ?_ | refine kA_ ?_ _)); refine blk_put (cs := #[.int .i64 t154, .int .i64 t155, .int .i64 t156, .int .i64 0, .slice none 0 0]) ?_ 3 _ rfl; (with_reducible repeat (first | refine kN_ ?_ _ | refine kD_ ?_ | refine kA_ ?_ _)); refine blk_put (cs := #[.int .i64 t154, .int .i64 t155, .int .i64 0, .int .i64 0, .slice none 0 0]) ?_ 2 _ rfl; (with_reducible repeat (first | refine kN_ ?_ _ | refine kD_ ?_ | refine kA_ ?_ _)); refine blk_put (cs := #[.int .i64 t154, .int .i64 0, .int .i64 0, .int .i64 0, .slice none 0 0]) ?_ 1 _ rfl; (with_reducible repeat (first | refine kN_ ?_ _ | refine kD_ ?_ | refine kA_ ?_ _)); refine blk_put (cs := #[.int .i64 0, .int .i64 0, .int .i64 0, .int .i64 0, .slice none 0 0]) ?_ 0 _ rfl; (with_reducible repeat (first | refine kN_ ?_ _ | refine kD_ ?_ | refine kA_ ?_ _)); exact BK161.1) hb); have n8_ := Am_ (bT_ (by repeat (first | (with_reducible first | exact HB.1 | apply bA_ | apply bN_ | apply bD_ | refine bS_ ?_ GE127.1 | refine bS_ ?_ GE128.1 | refine bS_ ?_ GE153.1 | refine bS_ ?_ GE161.1) | exact HB.1)) hb); clear HO137 HO144 HO152 HO160 BK127 BK128 BK153 BK161 HB; have HO137 := n0_; have HO144 := n1_; have HO152 := n2_; have HO160 := n3_; have BK127 := n4_; have BK128 := n5_; have BK153 := n6_; have BK161 := n7_; have HB := n8_; clear n0_ n1_ n2_ n3_ n4_ n5_ n6_ n7_ n8_; (try clear hb); (try clear hb2); (try clear hk); (try clear hi)))
      have n0_ := Am_ (rD_ HO137.1)
      have n1_ := Am_ (rD_ HO144.1)
      have n2_ := Am_ (rD_ HO152.1)
      have n3_ := Am_ (rD_ HO160.1)
      have n4_ := Am_ (kD_ BK127.1)
      have n5_ := Am_ (kD_ BK128.1)
      have n6_ := Am_ (kD_ BK153.1)
      have n7_ := Am_ (kD_ BK161.1)
      have n8_ := Am_ (bD_ HB.1)
      clear HO137
      clear HO144
      clear HO152
      clear HO160
      clear BK127
      clear BK128
      clear BK153
      clear BK161
      clear HB
      have HO137 := n0_
      have HO144 := n1_
      have HO152 := n2_
      have HO160 := n3_
      have BK127 := n4_
      have BK128 := n5_
      have BK153 := n6_
      have BK161 := n7_
      have HB := n8_
      clear n0_ n1_ n2_ n3_ n4_ n5_ n6_ n7_ n8_
      refine start_ (n := 5) (S := fun w' => w'.cell? ⟨gb153, 0, none⟩ = some (.int .i64 t146) ∧ w'.cell? ⟨gb153, 1, none⟩ = some (.int .i64 t147) ∧ w'.cell? ⟨gb153, 2, none⟩ = some (.int .i64 t148) ∧ w'.cell? ⟨gb153, 3, none⟩ = some (.int .i64 t149) ∧ w'.cell? ⟨gb153, 4, none⟩ = some (.slice Ao81 t150.length co81) ∧ w'.cell? ⟨gb127, 0, none⟩ = some (.int .i64 a0_0) ∧ w'.cell? ⟨gb127, 1, none⟩ = some (.int .i64 a0_1) ∧ w'.cell? ⟨gb127, 2, none⟩ = some (.int .i64 a0_2) ∧ w'.cell? ⟨gb127, 3, none⟩ = some (.int .i64 a0_3) ∧ w'.cell? ⟨gb127, 4, none⟩ = some (.slice A0_4 l0_4.length c0_4)) (ds := []) #[false, false, false, false, false] (by kernel_rfl) rfl rfl ⟨kC_ BK153.1 0, kC_ BK153.1 1, kC_ BK153.1 2, kC_ BK153.1 3, kC_ BK153.1 4, kC_ BK127.1 0, kC_ BK127.1 1, kC_ BK127.1 2, kC_ BK127.1 3, kC_ BK127.1 4⟩ (fun hHeld => ?_)
      generalize w91.drew = w92 at HO137 HO144 HO152 HO160 BK127 BK128 BK153 BK161 HB hHeld ⊢
      refine take_ (i := 0) (N := some 35) (v := ?_) (a' := ?_) #[true, false, false, false, false] rfl rfl (by kernel_rfl) (fun _ _ _ h => h) (Or.inl ⟨by rfl, ?_⟩) hHeld ?_ ?_
      rotate_left
      ·rintro w' ⟨s0, s1, s2, s3, s4, s5, s6, s7, s8, s9⟩
       go_simp
       with_reducible rfl
      rotate_left
      ·simp only [Act.put, List.setIfInBounds_toArray, List.set_cons_zero, List.set_cons_succ, i64_w, i32_w]
       rfl
      refine take_ (i := 1) (N := some 36) (v := ?_) (a' := ?_) #[true, true, false, false, false] rfl rfl (by kernel_rfl) (fun _ _ _ h => h) (Or.inl ⟨by rfl, ?_⟩) hHeld ?_ ?_
      rotate_left
      ·rintro w' ⟨s0, s1, s2, s3, s4, s5, s6, s7, s8, s9⟩
       go_simp
       with_reducible rfl
      rotate_left
      ·simp only [Act.put, List.setIfInBounds_toArray, List.set_cons_zero, List.set_cons_succ, i64_w, i32_w]
       rfl
      refine one_ (i := 2) (N := some 37) #[true, true, true, false, false] rfl rfl (by kernel_rfl) (by decide) (fun K hK => ?_)
      refine goes_ Try.func28 (by kernel_rfl) rfl #[.agg #[.int .i64 a0_0, .int .i64 a0_1, .int .i64 a0_2, .int .i64 a0_3, .slice A0_4 l0_4.length c0_4]] (by rfl) rfl rfl (by (try simp only [List.map_toArray, List.map_cons, List.map_nil]); first | done | rfl | (simp only [List.length_drop, List.length_take]; rfl)) ?_
      with_reducible refine (laws_toMeshFrame.calls k a0_0 a0_1 a0_2 a0_3 _ _ l0_4 t163 t164 t165 t166 t167 _ ?side1 ?side2 A56.1).mono ?_
      (case side1 => repeat (first | exact (Kd.C_below HR0_4.1 HB.1) | (with_reducible refine Kd.C_alloc ?_ _) | (with_reducible refine Kd.C_drewN ?_ _) | (with_reducible refine Kd.C_drew ?_)))
      (case side2 => exact HC0_4.1)
      rintro e w93 ⟨v168, rfl, ho0, hb⟩
      refine ⟨_, rfl, ?_⟩
      have n0_ := Am_ (Kd.R_elder' (by (with_reducible repeat (first | apply rA_ | apply rN_ | apply rD_)); exact HO137.1) (Kd.R_base ho0) hb)
      have n1_ := Am_ (Kd.R_elder' (by (with_reducible repeat (first | apply rA_ | apply rN_ | apply rD_)); exact HO144.1) (Kd.R_base ho0) hb)
      have n2_ := Am_ (Kd.R_elder' (by (with_reducible repeat (first | apply rA_ | apply rN_ | apply rD_)); exact HO152.1) (Kd.R_base ho0) hb)
      have n3_ := Am_ (Kd.R_elder' (by (with_reducible repeat (first | apply rA_ | apply rN_ | apply rD_)); exact HO160.1) (Kd.R_base ho0) hb)
      have n4_ := Am_ (Kd.R_lower (Kd.R_new' (Kd.R_new' (Kd.R_new' (Kd.R_new' ho0 (Kd.R_lt (by (with_reducible repeat (first | apply rA_ | apply rN_ | apply rD_)); exact HO137.1))) (Kd.R_lt (by (with_reducible repeat (first | apply rA_ | apply rN_ | apply rD_)); exact HO144.1))) (Kd.R_lt (by (with_reducible repeat (first | apply rA_ | apply rN_ | apply rD_)); exact HO152.1))) (Kd.R_lt (by (with_reducible repeat (first | apply rA_ | apply rN_ | apply rD_)); exact HO160.1))) (bZ_ (by repeat (first | (with_reducible first | exact HB.1 | apply bA_ | apply bN_ | apply bD_ | refine bS_ ?_ GE127.1 | refine bS_ ?_ GE128.1 | refine bS_ ?_ GE153.1 | refine bS_ ?_ GE161.1) | exact HB.1))))
      have n5_ := Am_ (kB_ (g := gb127) (o := .cells #[.int .i64 a0_0, .int .i64 a0_1, .int .i64 a0_2, .int .i64 a0_3, .slice A0_4 l0_4.length c0_4] 41 (0, 0)) (by (with_reducible repeat (first | refine kN_ ?_ _ | refine kD_ ?_ | refine kA_ ?_ _)); exact BK127.1) hb)
      have n6_ := Am_ (kB_ (g := gb128) (o := .cells #[.int .i64 a1_0, .int .i64 a1_1, .int .i64 a1_2, .int .i64 a1_3, .slice A1_4 l1_4.length c1_4] 41 (0, 0)) (by (with_reducible repeat (first | refine kN_ ?_ _ | refine kD_ ?_ | refine kA_ ?_ _)); exact BK128.1) hb)
      have n7_ := Am_ (kB_ (g := gb153) (o := .cells #[.int .i64 t146, .int .i64 t147, .int .i64 t148, .int .i64 t149, .slice Ao81 t150.length co81] 44 (0, 0)) (by (with_reducible repeat (first | refine kN_ ?_ _ | refine kD_ ?_ | refine kA_ ?_ _)); exact BK153.1) hb)
      have n8_ := Am_ (kB_ (g := gb161) (o := .cells #[.int .i64 t154, .int .i64 t155, .int .i64 t156, .int .i64 t157, .slice Ao89 t158.length co89] 44 (0, 0)) (by (with_reducible repeat (first | refine kN_ ?_ _ | refine kD_ ?_ | refine kA_ ?_ _)); exact BK161.1) hb)
      have n9_ := Am_ (bT_ (by repeat (first | (with_reducible first | exact HB.1 | apply bA_ | apply bN_ | apply bD_ | refine bS_ ?_ GE127.1 | refine bS_ ?_ GE128.1 | refine bS_ ?_ GE153.1 | refine bS_ ?_ GE161.1) | exact HB.1)) hb)
      clear HO137
      clear HO144
      clear HO152
      clear HO160
      clear BK127
      clear BK128
      clear BK153
      clear BK161
      clear HB
      have HO137 := n0_
      have HO144 := n1_
      have HO152 := n2_
      have HO160 := n3_
      have HO169 := n4_
      have BK127 := n5_
      have BK128 := n6_
      have BK153 := n7_
      have BK161 := n8_
      have HB := n9_
      clear n0_ n1_ n2_ n3_ n4_ n5_ n6_ n7_ n8_ n9_
      (try clear hb)
      (try clear hb2)
      (try clear hk)
      (try clear hi)
      (try clear ho0)
      obtain ⟨Ao94, co94, eo94⟩ := Kd.R_slice HO169.1
      (first | subst eo94 | (injection eo94 with f1_ f2_ f3_; have f4_ := f1_.symm; have f5_ := f3_.symm; clear f1_ f2_ f3_; subst f4_; subst f5_))
      refine hK.out _ _ ⟨kC_ BK153.1 0, kC_ BK153.1 1, kC_ BK153.1 2, kC_ BK153.1 3, kC_ BK153.1 4, kC_ BK127.1 0, kC_ BK127.1 1, kC_ BK127.1 2, kC_ BK127.1 3, kC_ BK127.1 4⟩ (fun hHeld => ?_)
      clear hK K
      refine norm_ (a' := ?_) ?_ ?_
      rotate_left
      ·show Act.put _ (some 37) _ = _
       simp only [Act.put, List.setIfInBounds_toArray, List.set_cons_zero, List.set_cons_succ, i64_w, i32_w]
       rfl
      refine one_ (i := 3) (N := some 38) #[true, true, true, true, false] rfl rfl (by kernel_rfl) (by decide) (fun K hK => ?_)
      refine goes_ Try.func30 (by kernel_rfl) rfl #[.agg #[.int .i64 t146, .int .i64 t147, .int .i64 t148, .int .i64 t149, .slice Ao81 t150.length co81], .agg #[.int .i64 t163, .int .i64 t164, .int .i64 t165, .int .i64 t166, .slice Ao94 t167.length co94]] (by rfl) rfl rfl (by (try simp only [List.map_toArray, List.map_cons, List.map_nil]); first | done | rfl | (simp only [List.length_drop, List.length_take]; rfl)) ?_
      with_reducible refine (laws_eqMeshFrame.calls k t146 t147 t148 t149 _ _ t150 t163 t164 t165 t166 _ _ t167 true _ ?side1 ?side2 ?side3 ?side4 A57.1).mono ?_
      (case side1 => repeat (first | exact (Kd.R_reads' HO152.1).2.2 | (with_reducible refine Kd.C_alloc ?_ _) | (with_reducible refine Kd.C_drewN ?_ _) | (with_reducible refine Kd.C_drew ?_)))
      (case side2 => exact (Kd.R_reads' HO152.1).2.1)
      (case side3 => repeat (first | exact (Kd.R_reads' HO169.1).2.2 | (with_reducible refine Kd.C_alloc ?_ _) | (with_reducible refine Kd.C_drewN ?_ _) | (with_reducible refine Kd.C_drew ?_)))
      (case side4 => exact (Kd.R_reads' HO169.1).2.1)
      rintro e w95 ⟨rfl, hb⟩
      refine ⟨_, rfl, ?_⟩
      have n0_ := Am_ (Kd.R_below (by (with_reducible repeat (first | apply rA_ | apply rN_ | apply rD_)); exact HO137.1) hb)
      have n1_ := Am_ (Kd.R_below (by (with_reducible repeat (first | apply rA_ | apply rN_ | apply rD_)); exact HO144.1) hb)
      have n2_ := Am_ (Kd.R_below (by (with_reducible repeat (first | apply rA_ | apply rN_ | apply rD_)); exact HO152.1) hb)
      have n3_ := Am_ (Kd.R_below (by (with_reducible repeat (first | apply rA_ | apply rN_ | apply rD_)); exact HO160.1) hb)
      have n4_ := Am_ (Kd.R_below (by (with_reducible repeat (first | apply rA_ | apply rN_ | apply rD_)); exact HO169.1) hb)
      have n5_ := Am_ (kB_ (g := gb127) (o := .cells #[.int .i64 a0_0, .int .i64 a0_1, .int .i64 a0_2, .int .i64 a0_3, .slice A0_4 l0_4.length c0_4] 41 (0, 0)) (by (with_reducible repeat (first | refine kN_ ?_ _ | refine kD_ ?_ | refine kA_ ?_ _)); exact BK127.1) hb)
      have n6_ := Am_ (kB_ (g := gb128) (o := .cells #[.int .i64 a1_0, .int .i64 a1_1, .int .i64 a1_2, .int .i64 a1_3, .slice A1_4 l1_4.length c1_4] 41 (0, 0)) (by (with_reducible repeat (first | refine kN_ ?_ _ | refine kD_ ?_ | refine kA_ ?_ _)); exact BK128.1) hb)
      have n7_ := Am_ (kB_ (g := gb153) (o := .cells #[.int .i64 t146, .int .i64 t147, .int .i64 t148, .int .i64 t149, .slice Ao81 t150.length co81] 44 (0, 0)) (by (with_reducible repeat (first | refine kN_ ?_ _ | refine kD_ ?_ | refine kA_ ?_ _)); exact BK153.1) hb)
      have n8_ := Am_ (kB_ (g := gb161) (o := .cells #[.int .i64 t154, .int .i64 t155, .int .i64 t156, .int .i64 t157, .slice Ao89 t158.length co89] 44 (0, 0)) (by (with_reducible repeat (first | refine kN_ ?_ _ | refine kD_ ?_ | refine kA_ ?_ _)); exact BK161.1) hb)
      have n9_ := Am_ (bT_ (by repeat (first | (with_reducible first | exact HB.1 | apply bA_ | apply bN_ | apply bD_ | refine bS_ ?_ GE127.1 | refine bS_ ?_ GE128.1 | refine bS_ ?_ GE153.1 | refine bS_ ?_ GE161.1) | exact HB.1)) hb)
      clear HO137
      clear HO144
      clear HO152
      clear HO160
      clear HO169
      clear BK127
      clear BK128
      clear BK153
      clear BK161
      clear HB
      have HO137 := n0_
      have HO144 := n1_
      have HO152 := n2_
      have HO160 := n3_
      have HO169 := n4_
      have BK127 := n5_
      have BK128 := n6_
      have BK153 := n7_
      have BK161 := n8_
      have HB := n9_
      clear n0_ n1_ n2_ n3_ n4_ n5_ n6_ n7_ n8_ n9_
      (try clear hb)
      (try clear hb2)
      (try clear hk)
      (try clear hi)
      refine hK.out _ _ ⟨kC_ BK153.1 0, kC_ BK153.1 1, kC_ BK153.1 2, kC_ BK153.1 3, kC_ BK153.1 4, kC_ BK127.1 0, kC_ BK127.1 1, kC_ BK127.1 2, kC_ BK127.1 3, kC_ BK127.1 4⟩ (fun hHeld => ?_)
      clear hK K
      refine norm_ (a' := ?_) ?_ ?_
      rotate_left
      ·show Act.put _ (some 38) _ = _
       simp only [Act.put, List.setIfInBounds_toArray, List.set_cons_zero, List.set_cons_succ, i64_w, i32_w]
       rfl
      refine pure_ (i := 4) (N := some 39) (v := ?_) (a' := ?_) #[true, true, true, true, true] rfl rfl (by kernel_rfl) (fun _ _ _ h => h) (Or.inl ⟨by rfl, ?_⟩) ?_ ?_
      rotate_left
      ·intro w'
       go_simp
       with_reducible rfl
      rotate_left
      ·simp only [Act.put, List.setIfInBounds_toArray, List.set_cons_zero, List.set_cons_succ, i64_w, i32_w]
       rfl
      refine done_ (by kernel_rfl) ?_
      try go_wp2
      have n0_ := Am_ (rD_ HO137.1)
      have n1_ := Am_ (rD_ HO144.1)
      have n2_ := Am_ (rD_ HO152.1)
      have n3_ := Am_ (rD_ HO160.1)
      have n4_ := Am_ (rD_ HO169.1)
      have n5_ := Am_ (kD_ BK127.1)
      have n6_ := Am_ (kD_ BK128.1)
      have n7_ := Am_ (kD_ BK153.1)
      have n8_ := Am_ (kD_ BK161.1)
      have n9_ := Am_ (bD_ HB.1)
      clear HO137
      clear HO144
      clear HO152
      clear HO160
      clear HO169
      clear BK127
      clear BK128
      clear BK153
      clear BK161
      clear HB
      have HO137 := n0_
      have HO144 := n1_
      have HO152 := n2_
      have HO160 := n3_
      have HO169 := n4_
      have BK127 := n5_
      have BK128 := n6_
      have BK153 := n7_
      have BK161 := n8_
      have HB := n9_
      clear n0_ n1_ n2_ n3_ n4_ n5_ n6_ n7_ n8_ n9_
      refine start_ (n := 5) (S := fun w' => w'.cell? ⟨gb161, 0, none⟩ = some (.int .i64 t154) ∧ w'.cell? ⟨gb161, 1, none⟩ = some (.int .i64 t155) ∧ w'.cell? ⟨gb161, 2, none⟩ = some (.int .i64 t156) ∧ w'.cell? ⟨gb161, 3, none⟩ = some (.int .i64 t157) ∧ w'.cell? ⟨gb161, 4, none⟩ = some (.slice Ao89 t158.length co89) ∧ w'.cell? ⟨gb128, 0, none⟩ = some (.int .i64 a1_0) ∧ w'.cell? ⟨gb128, 1, none⟩ = some (.int .i64 a1_1) ∧ w'.cell? ⟨gb128, 2, none⟩ = some (.int .i64 a1_2) ∧ w'.cell? ⟨gb128, 3, none⟩ = some (.int .i64 a1_3) ∧ w'.cell? ⟨gb128, 4, none⟩ = some (.slice A1_4 l1_4.length c1_4)) (ds := []) #[false, false, false, false, false] (by kernel_rfl) rfl rfl ⟨kC_ BK161.1 0, kC_ BK161.1 1, kC_ BK161.1 2, kC_ BK161.1 3, kC_ BK161.1 4, kC_ BK128.1 0, kC_ BK128.1 1, kC_ BK128.1 2, kC_ BK128.1 3, kC_ BK128.1 4⟩ (fun hHeld => ?_)
      generalize w95.drew = w96 at HO137 HO144 HO152 HO160 HO169 BK127 BK128 BK153 BK161 HB hHeld ⊢
      refine take_ (i := 0) (N := some 40) (v := ?_) (a' := ?_) #[true, false, false, false, false] rfl rfl (by kernel_rfl) (fun _ _ _ h => h) (Or.inl ⟨by rfl, ?_⟩) hHeld ?_ ?_
      rotate_left
      ·rintro w' ⟨s0, s1, s2, s3, s4, s5, s6, s7, s8, s9⟩
       go_simp
       with_reducible rfl
      rotate_left
      ·simp only [Act.put, List.setIfInBounds_toArray, List.set_cons_zero, List.set_cons_succ, i64_w, i32_w]
       rfl
      refine take_ (i := 1) (N := some 41) (v := ?_) (a' := ?_) #[true, true, false, false, false] rfl rfl (by kernel_rfl) (fun _ _ _ h => h) (Or.inl ⟨by rfl, ?_⟩) hHeld ?_ ?_
      rotate_left
      ·rintro w' ⟨s0, s1, s2, s3, s4, s5, s6, s7, s8, s9⟩
       go_simp
       with_reducible rfl
      rotate_left
      ·simp only [Act.put, List.setIfInBounds_toArray, List.set_cons_zero, List.set_cons_succ, i64_w, i32_w]
       rfl
      refine one_ (i := 2) (N := some 42) #[true, true, true, false, false] rfl rfl (by kernel_rfl) (by decide) (fun K hK => ?_)
      refine goes_ Try.func28 (by kernel_rfl) rfl #[.agg #[.int .i64 a1_0, .int .i64 a1_1, .int .i64 a1_2, .int .i64 a1_3, .slice A1_4 l1_4.length c1_4]] (by rfl) rfl rfl (by (try simp only [List.map_toArray, List.map_cons, List.map_nil]); first | done | rfl | (simp only [List.length_drop, List.length_take]; rfl)) ?_
      with_reducible refine (laws_toMeshFrame.calls k a1_0 a1_1 a1_2 a1_3 _ _ l1_4 t171 t172 t173 t174 t175 _ ?side1 ?side2 A59.1).mono ?_
      (case side1 => repeat (first | exact (Kd.C_below HR1_4.1 HB.1) | (with_reducible refine Kd.C_alloc ?_ _) | (with_reducible refine Kd.C_drewN ?_ _) | (with_reducible refine Kd.C_drew ?_)))
      (case side2 => exact HC1_4.1)
      rintro e w97 ⟨v176, rfl, ho0, hb⟩
      refine ⟨_, rfl, ?_⟩
      have n0_ := Am_ (Kd.R_elder' (by (with_reducible repeat (first | apply rA_ | apply rN_ | apply rD_)); exact HO137.1) (Kd.R_base ho0) hb)
      have n1_ := Am_ (Kd.R_elder' (by (with_reducible repeat (first | apply rA_ | apply rN_ | apply rD_)); exact HO144.1) (Kd.R_base ho0) hb)
      have n2_ := Am_ (Kd.R_elder' (by (with_reducible repeat (first | apply rA_ | apply rN_ | apply rD_)); exact HO152.1) (Kd.R_base ho0) hb)
      have n3_ := Am_ (Kd.R_elder' (by (with_reducible repeat (first | apply rA_ | apply rN_ | apply rD_)); exact HO160.1) (Kd.R_base ho0) hb)
      have n4_ := Am_ (Kd.R_elder' (by (with_reducible repeat (first | apply rA_ | apply rN_ | apply rD_)); exact HO169.1) (Kd.R_base ho0) hb)
      have n5_ := Am_ (Kd.R_lower (Kd.R_new' (Kd.R_new' (Kd.R_new' (Kd.R_new' (Kd.R_new' ho0 (Kd.R_lt (by (with_reducible repeat (first | apply rA_ | apply rN_ | apply rD_)); exact HO137.1))) (Kd.R_lt (by (with_reducible repeat (first | apply rA_ | apply rN_ | apply rD_)); exact HO144.1))) (Kd.R_lt (by (with_reducible repeat (first | apply rA_ | apply rN_ | apply rD_)); exact HO152.1))) (Kd.R_lt (by (with_reducible repeat (first | apply rA_ | apply rN_ | apply rD_)); exact HO160.1))) (Kd.R_lt (by (with_reducible repeat (first | apply rA_ | apply rN_ | apply rD_)); exact HO169.1))) (bZ_ (by repeat (first | (with_reducible first | exact HB.1 | apply bA_ | apply bN_ | apply bD_ | refine bS_ ?_ GE127.1 | refine bS_ ?_ GE128.1 | refine bS_ ?_ GE153.1 | refine bS_ ?_ GE161.1) | exact HB.1))))
      have n6_ := Am_ (kB_ (g := gb127) (o := .cells #[.int .i64 a0_0, .int .i64 a0_1, .int .i64 a0_2, .int .i64 a0_3, .slice A0_4 l0_4.length c0_4] 41 (0, 0)) (by (with_reducible repeat (first | refine kN_ ?_ _ | refine kD_ ?_ | refine kA_ ?_ _)); exact BK127.1) hb)
      have n7_ := Am_ (kB_ (g := gb128) (o := .cells #[.int .i64 a1_0, .int .i64 a1_1, .int .i64 a1_2, .int .i64 a1_3, .slice A1_4 l1_4.length c1_4] 41 (0, 0)) (by (with_reducible repeat (first | refine kN_ ?_ _ | refine kD_ ?_ | refine kA_ ?_ _)); exact BK128.1) hb)
      have n8_ := Am_ (kB_ (g := gb153) (o := .cells #[.int .i64 t146, .int .i64 t147, .int .i64 t148, .int .i64 t149, .slice Ao81 t150.length co81] 44 (0, 0)) (by (with_reducible repeat (first | refine kN_ ?_ _ | refine kD_ ?_ | refine kA_ ?_ _)); exact BK153.1) hb)
      have n9_ := Am_ (kB_ (g := gb161) (o := .cells #[.int .i64 t154, .int .i64 t155, .int .i64 t156, .int .i64 t157, .slice Ao89 t158.length co89] 44 (0, 0)) (by (with_reducible repeat (first | refine kN_ ?_ _ | refine kD_ ?_ | refine kA_ ?_ _)); exact BK161.1) hb)
      have n10_ := Am_ (bT_ (by repeat (first | (with_reducible first | exact HB.1 | apply bA_ | apply bN_ | apply bD_ | refine bS_ ?_ GE127.1 | refine bS_ ?_ GE128.1 | refine bS_ ?_ GE153.1 | refine bS_ ?_ GE161.1) | exact HB.1)) hb)
      clear HO137
      clear HO144
      clear HO152
      clear HO160
      clear HO169
      clear BK127
      clear BK128
      clear BK153
      clear BK161
      clear HB
      have HO137 := n0_
      have HO144 := n1_
      have HO152 := n2_
      have HO160 := n3_
      have HO169 := n4_
      have HO177 := n5_
      have BK127 := n6_
      have BK128 := n7_
      have BK153 := n8_
      have BK161 := n9_
      have HB := n10_
      clear n0_ n1_ n2_ n3_ n4_ n5_ n6_ n7_ n8_ n9_ n10_
      (try clear hb)
      (try clear hb2)
      (try clear hk)
      (try clear hi)
      (try clear ho0)
      obtain ⟨Ao98, co98, eo98⟩ := Kd.R_slice HO177.1
      (first | subst eo98 | (injection eo98 with f1_ f2_ f3_; have f4_ := f1_.symm; have f5_ := f3_.symm; clear f1_ f2_ f3_; subst f4_; subst f5_))
      refine hK.out _ _ ⟨kC_ BK161.1 0, kC_ BK161.1 1, kC_ BK161.1 2, kC_ BK161.1 3, kC_ BK161.1 4, kC_ BK128.1 0, kC_ BK128.1 1, kC_ BK128.1 2, kC_ BK128.1 3, kC_ BK128.1 4⟩ (fun hHeld => ?_)
      clear hK K
      refine norm_ (a' := ?_) ?_ ?_
      rotate_left
      ·show Act.put _ (some 42) _ = _
       simp only [Act.put, List.setIfInBounds_toArray, List.set_cons_zero, List.set_cons_succ, i64_w, i32_w]
       rfl
      refine one_ (i := 3) (N := some 43) #[true, true, true, true, false] rfl rfl (by kernel_rfl) (by decide) (fun K hK => ?_)
      refine goes_ Try.func30 (by kernel_rfl) rfl #[.agg #[.int .i64 t154, .int .i64 t155, .int .i64 t156, .int .i64 t157, .slice Ao89 t158.length co89], .agg #[.int .i64 t171, .int .i64 t172, .int .i64 t173, .int .i64 t174, .slice Ao98 t175.length co98]] (by rfl) rfl rfl (by (try simp only [List.map_toArray, List.map_cons, List.map_nil]); first | done | rfl | (simp only [List.length_drop, List.length_take]; rfl)) ?_
      with_reducible refine (laws_eqMeshFrame.calls k t154 t155 t156 t157 _ _ t158 t171 t172 t173 t174 _ _ t175 true _ ?side1 ?side2 ?side3 ?side4 A60.1).mono ?_
      (case side1 => repeat (first | exact (Kd.R_reads' HO160.1).2.2 | (with_reducible refine Kd.C_alloc ?_ _) | (with_reducible refine Kd.C_drewN ?_ _) | (with_reducible refine Kd.C_drew ?_)))
      (case side2 => exact (Kd.R_reads' HO160.1).2.1)
      (case side3 => repeat (first | exact (Kd.R_reads' HO177.1).2.2 | (with_reducible refine Kd.C_alloc ?_ _) | (with_reducible refine Kd.C_drewN ?_ _) | (with_reducible refine Kd.C_drew ?_)))
      (case side4 => exact (Kd.R_reads' HO177.1).2.1)
      rintro e w99 ⟨rfl, hb⟩
      refine ⟨_, rfl, ?_⟩
      have n0_ := Am_ (Kd.R_below (by (with_reducible repeat (first | apply rA_ | apply rN_ | apply rD_)); exact HO137.1) hb)
      have n1_ := Am_ (Kd.R_below (by (with_reducible repeat (first | apply rA_ | apply rN_ | apply rD_)); exact HO144.1) hb)
      have n2_ := Am_ (Kd.R_below (by (with_reducible repeat (first | apply rA_ | apply rN_ | apply rD_)); exact HO152.1) hb)
      have n3_ := Am_ (Kd.R_below (by (with_reducible repeat (first | apply rA_ | apply rN_ | apply rD_)); exact HO160.1) hb)
      have n4_ := Am_ (Kd.R_below (by (with_reducible repeat (first | apply rA_ | apply rN_ | apply rD_)); exact HO169.1) hb)
      have n5_ := Am_ (Kd.R_below (by (with_reducible repeat (first | apply rA_ | apply rN_ | apply rD_)); exact HO177.1) hb)
      have n6_ := Am_ (kB_ (g := gb127) (o := .cells #[.int .i64 a0_0, .int .i64 a0_1, .int .i64 a0_2, .int .i64 a0_3, .slice A0_4 l0_4.length c0_4] 41 (0, 0)) (by (with_reducible repeat (first | refine kN_ ?_ _ | refine kD_ ?_ | refine kA_ ?_ _)); exact BK127.1) hb)
      have n7_ := Am_ (kB_ (g := gb128) (o := .cells #[.int .i64 a1_0, .int .i64 a1_1, .int .i64 a1_2, .int .i64 a1_3, .slice A1_4 l1_4.length c1_4] 41 (0, 0)) (by (with_reducible repeat (first | refine kN_ ?_ _ | refine kD_ ?_ | refine kA_ ?_ _)); exact BK128.1) hb)
      have n8_ := Am_ (kB_ (g := gb153) (o := .cells #[.int .i64 t146, .int .i64 t147, .int .i64 t148, .int .i64 t149, .slice Ao81 t150.length co81] 44 (0, 0)) (by (with_reducible repeat (first | refine kN_ ?_ _ | refine kD_ ?_ | refine kA_ ?_ _)); exact BK153.1) hb)
      have n9_ := Am_ (kB_ (g := gb161) (o := .cells #[.int .i64 t154, .int .i64 t155, .int .i64 t156, .int .i64 t157, .slice Ao89 t158.length co89] 44 (0, 0)) (by (with_reducible repeat (first | refine kN_ ?_ _ | refine kD_ ?_ | refine kA_ ?_ _)); exact BK161.1) hb)
      have n10_ := Am_ (bT_ (by repeat (first | (with_reducible first | exact HB.1 | apply bA_ | apply bN_ | apply bD_ | refine bS_ ?_ GE127.1 | refine bS_ ?_ GE128.1 | refine bS_ ?_ GE153.1 | refine bS_ ?_ GE161.1) | exact HB.1)) hb)
      clear HO137
      clear HO144
      clear HO152
      clear HO160
      clear HO169
      clear HO177
      clear BK127
      clear BK128
      clear BK153
      clear BK161
      clear HB
      have HO137 := n0_
      have HO144 := n1_
      have HO152 := n2_
      have HO160 := n3_
      have HO169 := n4_
      have HO177 := n5_
      have BK127 := n6_
      have BK128 := n7_
      have BK153 := n8_
      have BK161 := n9_
      have HB := n10_
      clear n0_ n1_ n2_ n3_ n4_ n5_ n6_ n7_ n8_ n9_ n10_
      (try clear hb)
      (try clear hb2)
      (try clear hk)
      (try clear hi)
      refine hK.out _ _ ⟨kC_ BK161.1 0, kC_ BK161.1 1, kC_ BK161.1 2, kC_ BK161.1 3, kC_ BK161.1 4, kC_ BK128.1 0, kC_ BK128.1 1, kC_ BK128.1 2, kC_ BK128.1 3, kC_ BK128.1 4⟩ (fun hHeld => ?_)
      clear hK K
      refine norm_ (a' := ?_) ?_ ?_
      rotate_left
      ·show Act.put _ (some 43) _ = _
       simp only [Act.put, List.setIfInBounds_toArray, List.set_cons_zero, List.set_cons_succ, i64_w, i32_w]
       rfl
      refine pure_ (i := 4) (N := some 44) (v := ?_) (a' := ?_) #[true, true, true, true, true] rfl rfl (by kernel_rfl) (fun _ _ _ h => h) (Or.inl ⟨by rfl, ?_⟩) ?_ ?_
      rotate_left
      ·intro w'
       go_simp
       with_reducible rfl
      rotate_left
      ·simp only [Act.put, List.setIfInBounds_toArray, List.set_cons_zero, List.set_cons_succ, i64_w, i32_w]
       rfl
      refine done_ (by kernel_rfl) ?_
      try go_wp2
      go_ret
      exact ⟨by first | rfl | (simp [errW_none, errW_some] <;> rfl) | (simp [*, errW_none, errW_some] <;> rfl), by repeat (first | (with_reducible first | exact HB.1 | apply bA_ | apply bN_ | apply bD_ | refine bS_ ?_ GE127.1 | refine bS_ ?_ GE128.1 | refine bS_ ?_ GE153.1 | refine bS_ ?_ GE161.1) | exact HB.1)⟩
     ·replace c61 := Bool.eq_false_iff.mpr c61
      subst c61
      have H1 : (some false) = some r := by rw [if_neg (show ¬ (false = true) by decide)] at H; exact H
      clear H
      have H := H1
      clear H1
      obtain rfl := Option.some.inj H
      go_enter Try.func6, Try.ntmps6
      try go_wp2_with (first | ((with_reducible refine gate_dst (N := 2) rfl ?_); refine box_event ?hg (N := 2) ?hd (cs := #[.int .i64 a0_0, .int .i64 a0_1, .int .i64 a0_2, .int .i64 a0_3, .slice A0_4 l0_4.length c0_4]) (t := 41) ?hr ?_; (case hd => rfl); (case hg => rfl); (case hr => first | (go_simp; done) | (go_simp; rfl)); intro gb127 hg w100 hbox hb; have n0_ := Am_ (bT_ (by repeat (first | (with_reducible first | exact HB.1 | apply bA_ | apply bN_ | apply bD_) | exact HB.1)) hb); have n1_ := Am_ (hbox); have n2_ := Am_ ((by rw [hg]; exact (bZ_ (by repeat (first | (with_reducible first | exact HB.1 | apply bA_ | apply bN_ | apply bD_) | exact HB.1))) : w.heap.size ≤ gb127)); have n3_ := Am_ ((by rw [hg]; exact (bZ_ (by repeat (first | (with_reducible first | exact HB.1 | apply bA_ | apply bN_ | apply bD_) | exact HB.1))) : w.heap.size ≤ gb127)); clear HB; have HB := n0_; have BK127 := n1_; have GW127 := n2_; have GE127 := n3_; clear n0_ n1_ n2_ n3_ hb hbox hg) | ((with_reducible refine gate_dst (N := 3) rfl ?_); refine box_event ?hg (N := 3) ?hd (cs := #[.int .i64 a1_0, .int .i64 a1_1, .int .i64 a1_2, .int .i64 a1_3, .slice A1_4 l1_4.length c1_4]) (t := 41) ?hr ?_; (case hd => rfl); (case hg => rfl); (case hr => first | (go_simp; done) | (go_simp; rfl)); intro gb128 hg w101 hbox hb; have n0_ := Am_ (kB_ (g := gb127) (o := .cells #[.int .i64 a0_0, .int .i64 a0_1, .int .i64 a0_2, .int .i64 a0_3, .slice A0_4 l0_4.length c0_4] 41 (0, 0)) (by (with_reducible repeat (first | refine kN_ ?_ _ | refine kD_ ?_ | refine kA_ ?_ _)); exact BK127.1) hb); have n1_ := Am_ (bT_ (by repeat (first | (with_reducible first | exact HB.1 | apply bA_ | apply bN_ | apply bD_ | refine bS_ ?_ GE127.1) | exact HB.1)) hb); have n2_ := Am_ (hbox); have n3_ := Am_ ((by rw [hg]; exact (bZ_ (by repeat (first | (with_reducible first | exact HB.1 | apply bA_ | apply bN_ | apply bD_ | refine bS_ ?_ GE127.1) | exact HB.1))) : w.heap.size ≤ gb128)); have n4_ := Am_ ((by rw [hg]; exact (bZ_ (by repeat (first | (with_reducible first | exact HB.1 | apply bA_ | apply bN_ | apply bD_ | refine bS_ ?_ GE127.1) | exact HB.1))) : w.heap.size ≤ gb128)); have n5_ := Am_ ((by rw [hg]; exact Nat.ne_of_lt (blk_lt (g := gb127) (o := .cells #[.int .i64 a0_0, .int .i64 a0_1, .int .i64 a0_2, .int .i64 a0_3, .slice A0_4 l0_4.length c0_4] 41 (0, 0)) (by (with_reducible repeat (first | refine kN_ ?_ _ | refine kD_ ?_ | refine kA_ ?_ _)); exact BK127.1)) : gb127 ≠ gb128)); have n6_ := Am_ ((by rw [hg]; exact Nat.ne_of_gt (blk_lt (g := gb127) (o := .cells #[.int .i64 a0_0, .int .i64 a0_1, .int .i64 a0_2, .int .i64 a0_3, .slice A0_4 l0_4.length c0_4] 41 (0, 0)) (by (with_reducible repeat (first | refine kN_ ?_ _ | refine kD_ ?_ | refine kA_ ?_ _)); exact BK127.1)) : gb128 ≠ gb127)); clear BK127 HB; have BK127 := n0_; have HB := n1_; have BK128 := n2_; have GW128 := n3_; have GE128 := n4_; have NB127_128 := n5_; have NB128_127 := n6_; clear n0_ n1_ n2_ n3_ n4_ n5_ n6_ hb hbox hg; have hnb102 := NB127_128.1; have hnc102 := NB128_127.1; have hcz103_0 : w101.cell? ⟨gb127, 0, none⟩ = some (.int .i64 a0_0) := kC_ BK127.1 0; have hcz103_1 : w101.cell? ⟨gb127, 1, none⟩ = some (.int .i64 a0_1) := kC_ BK127.1 1; have hcz103_2 : w101.cell? ⟨gb127, 2, none⟩ = some (.int .i64 a0_2) := kC_ BK127.1 2; have hcz103_3 : w101.cell? ⟨gb127, 3, none⟩ = some (.int .i64 a0_3) := kC_ BK127.1 3; have hcz103_4 : w101.cell? ⟨gb127, 4, none⟩ = some (.slice A0_4 l0_4.length c0_4) := kC_ BK127.1 4; have hfz103_0 := kF_ BK127.1 0; have hfz103_1 := kF_ BK127.1 1; have hfz103_2 := kF_ BK127.1 2; have hfz103_3 := kF_ BK127.1 3; have hfz103_4 := kF_ BK127.1 4) | ((with_reducible refine gate_callee (f := 26) rfl ?_); refine goesL_ (some 12) rfl rfl Try.func26 (by kernel_rfl) rfl #[.agg #[.int .i64 a0_0, .int .i64 a0_1, .int .i64 a0_2, .int .i64 a0_3, .slice A0_4 l0_4.length c0_4], .int .i64 1048576] rfl (by (try simp only [List.map_toArray, List.map_cons, List.map_nil]); first | done | rfl | (simp only [List.length_drop, List.length_take]; rfl)) ?_; (with_reducible refine (laws_szMeshFrame.calls a0_0 a0_1 a0_2 a0_3 _ _ l0_4 1048576 t129 _ ?side1 ?side2 A3.1).mono ?_); (case side1 => repeat (first | exact (Kd.C_below HR0_4.1 HB.1) | (with_reducible refine Kd.C_alloc ?_ _) | (with_reducible refine Kd.C_drewN ?_ _) | (with_reducible refine Kd.C_drew ?_))); (case side2 => exact HC0_4.1); rintro e w104 ⟨rfl, hb⟩; refine ⟨_, rfl, ?_⟩; have n0_ := Am_ (kB_ (g := gb127) (o := .cells #[.int .i64 a0_0, .int .i64 a0_1, .int .i64 a0_2, .int .i64 a0_3, .slice A0_4 l0_4.length c0_4] 41 (0, 0)) (by (with_reducible repeat (first | refine kN_ ?_ _ | refine kD_ ?_ | refine kA_ ?_ _)); exact BK127.1) hb); have n1_ := Am_ (kB_ (g := gb128) (o := .cells #[.int .i64 a1_0, .int .i64 a1_1, .int .i64 a1_2, .int .i64 a1_3, .slice A1_4 l1_4.length c1_4] 41 (0, 0)) (by (with_reducible repeat (first | refine kN_ ?_ _ | refine kD_ ?_ | refine kA_ ?_ _)); exact BK128.1) hb); have n2_ := Am_ (bT_ (by repeat (first | (with_reducible first | exact HB.1 | apply bA_ | apply bN_ | apply bD_ | refine bS_ ?_ GE127.1 | refine bS_ ?_ GE128.1) | exact HB.1)) hb); clear BK127 BK128 HB; have BK127 := n0_; have BK128 := n1_; have HB := n2_; clear n0_ n1_ n2_; (try clear hb); (try clear hb2); (try clear hk); (try clear hi); have hcz105_0 : w104.cell? ⟨gb128, 0, none⟩ = some (.int .i64 a1_0) := kC_ BK128.1 0; have hcz105_1 : w104.cell? ⟨gb128, 1, none⟩ = some (.int .i64 a1_1) := kC_ BK128.1 1; have hcz105_2 : w104.cell? ⟨gb128, 2, none⟩ = some (.int .i64 a1_2) := kC_ BK128.1 2; have hcz105_3 : w104.cell? ⟨gb128, 3, none⟩ = some (.int .i64 a1_3) := kC_ BK128.1 3; have hcz105_4 : w104.cell? ⟨gb128, 4, none⟩ = some (.slice A1_4 l1_4.length c1_4) := kC_ BK128.1 4; have hfz105_0 := kF_ BK128.1 0; have hfz105_1 := kF_ BK128.1 1; have hfz105_2 := kF_ BK128.1 2; have hfz105_3 := kF_ BK128.1 3; have hfz105_4 := kF_ BK128.1 4) | ((with_reducible refine gate_callee (f := 26) rfl ?_); refine goesL_ (some 17) rfl rfl Try.func26 (by kernel_rfl) rfl #[.agg #[.int .i64 a1_0, .int .i64 a1_1, .int .i64 a1_2, .int .i64 a1_3, .slice A1_4 l1_4.length c1_4], .int .i64 t129] rfl (by (try simp only [List.map_toArray, List.map_cons, List.map_nil]); first | done | rfl | (simp only [List.length_drop, List.length_take]; rfl)) ?_; (with_reducible refine (laws_szMeshFrame.calls a1_0 a1_1 a1_2 a1_3 _ _ l1_4 t129 t130 _ ?side1 ?side2 A10.1).mono ?_); (case side1 => repeat (first | exact (Kd.C_below HR1_4.1 HB.1) | (with_reducible refine Kd.C_alloc ?_ _) | (with_reducible refine Kd.C_drewN ?_ _) | (with_reducible refine Kd.C_drew ?_))); (case side2 => exact HC1_4.1); rintro e w106 ⟨rfl, hb⟩; refine ⟨_, rfl, ?_⟩; have n0_ := Am_ (kB_ (g := gb127) (o := .cells #[.int .i64 a0_0, .int .i64 a0_1, .int .i64 a0_2, .int .i64 a0_3, .slice A0_4 l0_4.length c0_4] 41 (0, 0)) (by (with_reducible repeat (first | refine kN_ ?_ _ | refine kD_ ?_ | refine kA_ ?_ _)); exact BK127.1) hb); have n1_ := Am_ (kB_ (g := gb128) (o := .cells #[.int .i64 a1_0, .int .i64 a1_1, .int .i64 a1_2, .int .i64 a1_3, .slice A1_4 l1_4.length c1_4] 41 (0, 0)) (by (with_reducible repeat (first | refine kN_ ?_ _ | refine kD_ ?_ | refine kA_ ?_ _)); exact BK128.1) hb); have n2_ := Am_ (bT_ (by repeat (first | (with_reducible first | exact HB.1 | apply bA_ | apply bN_ | apply bD_ | refine bS_ ?_ GE127.1 | refine bS_ ?_ GE128.1) | exact HB.1)) hb); clear BK127 BK128 HB; have BK127 := n0_; have BK128 := n1_; have HB := n2_; clear n0_ n1_ n2_; (try clear hb); (try clear hb2); (try clear hk); (try clear hi)))
      have n0_ := Am_ (kD_ BK127.1)
      have n1_ := Am_ (kD_ BK128.1)
      have n2_ := Am_ (bD_ HB.1)
      clear BK127
      clear BK128
      clear HB
      have BK127 := n0_
      have BK128 := n1_
      have HB := n2_
      clear n0_ n1_ n2_
      refine start_ (n := 6) (S := fun w' => w'.cell? ⟨gb127, 0, none⟩ = some (.int .i64 a0_0) ∧ w'.cell? ⟨gb127, 1, none⟩ = some (.int .i64 a0_1) ∧ w'.cell? ⟨gb127, 2, none⟩ = some (.int .i64 a0_2) ∧ w'.cell? ⟨gb127, 3, none⟩ = some (.int .i64 a0_3) ∧ w'.cell? ⟨gb127, 4, none⟩ = some (.slice A0_4 l0_4.length c0_4) ∧ w'.cell? ⟨gb128, 0, none⟩ = some (.int .i64 a1_0) ∧ w'.cell? ⟨gb128, 1, none⟩ = some (.int .i64 a1_1) ∧ w'.cell? ⟨gb128, 2, none⟩ = some (.int .i64 a1_2) ∧ w'.cell? ⟨gb128, 3, none⟩ = some (.int .i64 a1_3) ∧ w'.cell? ⟨gb128, 4, none⟩ = some (.slice A1_4 l1_4.length c1_4)) (ds := []) #[false, false, false, false, false, false] (by kernel_rfl) rfl rfl ⟨kC_ BK127.1 0, kC_ BK127.1 1, kC_ BK127.1 2, kC_ BK127.1 3, kC_ BK127.1 4, kC_ BK128.1 0, kC_ BK128.1 1, kC_ BK128.1 2, kC_ BK128.1 3, kC_ BK128.1 4⟩ (fun hHeld => ?_)
      generalize w106.drew = w107 at BK127 BK128 HB hHeld ⊢
      refine take_ (i := 0) (N := some 20) (v := ?_) (a' := ?_) #[true, false, false, false, false, false] rfl rfl (by kernel_rfl) (fun _ _ _ h => h) (Or.inl ⟨by rfl, ?_⟩) hHeld ?_ ?_
      rotate_left
      ·rintro w' ⟨s0, s1, s2, s3, s4, s5, s6, s7, s8, s9⟩
       go_simp
       with_reducible rfl
      rotate_left
      ·simp only [Act.put, List.setIfInBounds_toArray, List.set_cons_zero, List.set_cons_succ, i64_w, i32_w]
       rfl
      refine take_ (i := 2) (N := some 22) (v := ?_) (a' := ?_) #[true, false, true, false, false, false] rfl rfl (by kernel_rfl) (fun _ _ _ h => h) (Or.inl ⟨by rfl, ?_⟩) hHeld ?_ ?_
      rotate_left
      ·rintro w' ⟨s0, s1, s2, s3, s4, s5, s6, s7, s8, s9⟩
       go_simp
       with_reducible rfl
      rotate_left
      ·simp only [Act.put, List.setIfInBounds_toArray, List.set_cons_zero, List.set_cons_succ, i64_w, i32_w]
       rfl
      refine one_ (i := 1) (N := some 21) #[true, true, true, false, false, false] rfl rfl (by kernel_rfl) (by decide) (fun K hK => ?_)
      refine goes_ Try.func28 (by kernel_rfl) rfl #[.agg #[.int .i64 a0_0, .int .i64 a0_1, .int .i64 a0_2, .int .i64 a0_3, .slice A0_4 l0_4.length c0_4]] (by rfl) rfl rfl (by (try simp only [List.map_toArray, List.map_cons, List.map_nil]); first | done | rfl | (simp only [List.length_drop, List.length_take]; rfl)) ?_
      with_reducible refine (laws_toMeshFrame.calls k a0_0 a0_1 a0_2 a0_3 _ _ l0_4 t131 t132 t133 t134 t135 _ ?side1 ?side2 A19.1).mono ?_
      (case side1 => repeat (first | exact (Kd.C_below HR0_4.1 HB.1) | (with_reducible refine Kd.C_alloc ?_ _) | (with_reducible refine Kd.C_drewN ?_ _) | (with_reducible refine Kd.C_drew ?_)))
      (case side2 => exact HC0_4.1)
      rintro e w108 ⟨v136, rfl, ho0, hb⟩
      refine ⟨_, rfl, ?_⟩
      have n0_ := Am_ (Kd.R_lower ho0 (bZ_ (by repeat (first | (with_reducible first | exact HB.1 | apply bA_ | apply bN_ | apply bD_ | refine bS_ ?_ GE127.1 | refine bS_ ?_ GE128.1) | exact HB.1))))
      have n1_ := Am_ (kB_ (g := gb127) (o := .cells #[.int .i64 a0_0, .int .i64 a0_1, .int .i64 a0_2, .int .i64 a0_3, .slice A0_4 l0_4.length c0_4] 41 (0, 0)) (by (with_reducible repeat (first | refine kN_ ?_ _ | refine kD_ ?_ | refine kA_ ?_ _)); exact BK127.1) hb)
      have n2_ := Am_ (kB_ (g := gb128) (o := .cells #[.int .i64 a1_0, .int .i64 a1_1, .int .i64 a1_2, .int .i64 a1_3, .slice A1_4 l1_4.length c1_4] 41 (0, 0)) (by (with_reducible repeat (first | refine kN_ ?_ _ | refine kD_ ?_ | refine kA_ ?_ _)); exact BK128.1) hb)
      have n3_ := Am_ (bT_ (by repeat (first | (with_reducible first | exact HB.1 | apply bA_ | apply bN_ | apply bD_ | refine bS_ ?_ GE127.1 | refine bS_ ?_ GE128.1) | exact HB.1)) hb)
      clear BK127
      clear BK128
      clear HB
      have HO137 := n0_
      have BK127 := n1_
      have BK128 := n2_
      have HB := n3_
      clear n0_ n1_ n2_ n3_
      (try clear hb)
      (try clear hb2)
      (try clear hk)
      (try clear hi)
      (try clear ho0)
      refine hK.out _ _ ⟨kC_ BK127.1 0, kC_ BK127.1 1, kC_ BK127.1 2, kC_ BK127.1 3, kC_ BK127.1 4, kC_ BK128.1 0, kC_ BK128.1 1, kC_ BK128.1 2, kC_ BK128.1 3, kC_ BK128.1 4⟩ (fun hHeld => ?_)
      clear hK K
      refine norm_ (a' := ?_) ?_ ?_
      rotate_left
      ·show Act.put _ (some 21) _ = _
       simp only [Act.put, List.setIfInBounds_toArray, List.set_cons_zero, List.set_cons_succ, i64_w, i32_w]
       rfl
      refine one_ (i := 3) (N := some 23) #[true, true, true, true, false, false] rfl rfl (by kernel_rfl) (by decide) (fun K hK => ?_)
      refine goes_ Try.func28 (by kernel_rfl) rfl #[.agg #[.int .i64 a1_0, .int .i64 a1_1, .int .i64 a1_2, .int .i64 a1_3, .slice A1_4 l1_4.length c1_4]] (by rfl) rfl rfl (by (try simp only [List.map_toArray, List.map_cons, List.map_nil]); first | done | rfl | (simp only [List.length_drop, List.length_take]; rfl)) ?_
      with_reducible refine (laws_toMeshFrame.calls k a1_0 a1_1 a1_2 a1_3 _ _ l1_4 t138 t139 t140 t141 t142 _ ?side1 ?side2 A20.1).mono ?_
      (case side1 => repeat (first | exact (Kd.C_below HR1_4.1 HB.1) | (with_reducible refine Kd.C_alloc ?_ _) | (with_reducible refine Kd.C_drewN ?_ _) | (with_reducible refine Kd.C_drew ?_)))
      (case side2 => exact HC1_4.1)
      rintro e w109 ⟨v143, rfl, ho0, hb⟩
      refine ⟨_, rfl, ?_⟩
      have n0_ := Am_ (Kd.R_elder' (by (with_reducible repeat (first | apply rA_ | apply rN_ | apply rD_)); exact HO137.1) (Kd.R_base ho0) hb)
      have n1_ := Am_ (Kd.R_lower (Kd.R_new' ho0 (Kd.R_lt (by (with_reducible repeat (first | apply rA_ | apply rN_ | apply rD_)); exact HO137.1))) (bZ_ (by repeat (first | (with_reducible first | exact HB.1 | apply bA_ | apply bN_ | apply bD_ | refine bS_ ?_ GE127.1 | refine bS_ ?_ GE128.1) | exact HB.1))))
      have n2_ := Am_ (kB_ (g := gb127) (o := .cells #[.int .i64 a0_0, .int .i64 a0_1, .int .i64 a0_2, .int .i64 a0_3, .slice A0_4 l0_4.length c0_4] 41 (0, 0)) (by (with_reducible repeat (first | refine kN_ ?_ _ | refine kD_ ?_ | refine kA_ ?_ _)); exact BK127.1) hb)
      have n3_ := Am_ (kB_ (g := gb128) (o := .cells #[.int .i64 a1_0, .int .i64 a1_1, .int .i64 a1_2, .int .i64 a1_3, .slice A1_4 l1_4.length c1_4] 41 (0, 0)) (by (with_reducible repeat (first | refine kN_ ?_ _ | refine kD_ ?_ | refine kA_ ?_ _)); exact BK128.1) hb)
      have n4_ := Am_ (bT_ (by repeat (first | (with_reducible first | exact HB.1 | apply bA_ | apply bN_ | apply bD_ | refine bS_ ?_ GE127.1 | refine bS_ ?_ GE128.1) | exact HB.1)) hb)
      clear HO137
      clear BK127
      clear BK128
      clear HB
      have HO137 := n0_
      have HO144 := n1_
      have BK127 := n2_
      have BK128 := n3_
      have HB := n4_
      clear n0_ n1_ n2_ n3_ n4_
      (try clear hb)
      (try clear hb2)
      (try clear hk)
      (try clear hi)
      (try clear ho0)
      obtain ⟨Ao110, co110, eo110⟩ := Kd.R_slice HO137.1
      (first | subst eo110 | (injection eo110 with f1_ f2_ f3_; have f4_ := f1_.symm; have f5_ := f3_.symm; clear f1_ f2_ f3_; subst f4_; subst f5_))
      obtain ⟨Ao111, co111, eo111⟩ := Kd.R_slice HO144.1
      (first | subst eo111 | (injection eo111 with f1_ f2_ f3_; have f4_ := f1_.symm; have f5_ := f3_.symm; clear f1_ f2_ f3_; subst f4_; subst f5_))
      refine hK.out _ _ ⟨kC_ BK127.1 0, kC_ BK127.1 1, kC_ BK127.1 2, kC_ BK127.1 3, kC_ BK127.1 4, kC_ BK128.1 0, kC_ BK128.1 1, kC_ BK128.1 2, kC_ BK128.1 3, kC_ BK128.1 4⟩ (fun hHeld => ?_)
      clear hK K
      refine norm_ (a' := ?_) ?_ ?_
      rotate_left
      ·show Act.put _ (some 23) _ = _
       simp only [Act.put, List.setIfInBounds_toArray, List.set_cons_zero, List.set_cons_succ, i64_w, i32_w]
       rfl
      refine one_ (i := 4) (N := some 24) #[true, true, true, true, true, false] rfl rfl (by kernel_rfl) (by decide) (fun K hK => ?_)
      refine goes_ Try.func27 (by kernel_rfl) rfl #[.agg #[.int .i64 t131, .int .i64 t132, .int .i64 t133, .int .i64 t134, .slice Ao110 t135.length co110], .agg #[.int .i64 t138, .int .i64 t139, .int .i64 t140, .int .i64 t141, .slice Ao111 t142.length co111]] (by rfl) rfl rfl (by (try simp only [List.map_toArray, List.map_cons, List.map_nil]); first | done | rfl | (simp only [List.length_drop, List.length_take]; rfl)) ?_
      with_reducible refine (spec_EqualMeshFrames.calls t131 t132 t133 t134 _ _ t135 t138 t139 t140 t141 _ _ t142 t145 _ ?side1 ?side2 ?side3 ?side4 A21.1).mono ?_
      (case side1 => repeat (first | exact (Kd.R_reads' HO137.1).2.2 | (with_reducible refine Kd.C_alloc ?_ _) | (with_reducible refine Kd.C_drewN ?_ _) | (with_reducible refine Kd.C_drew ?_)))
      (case side2 => exact (Kd.R_reads' HO137.1).2.1)
      (case side3 => repeat (first | exact (Kd.R_reads' HO144.1).2.2 | (with_reducible refine Kd.C_alloc ?_ _) | (with_reducible refine Kd.C_drewN ?_ _) | (with_reducible refine Kd.C_drew ?_)))
      (case side4 => exact (Kd.R_reads' HO144.1).2.1)
      rintro e w112 ⟨rfl, hb⟩
      refine ⟨_, rfl, ?_⟩
      have n0_ := Am_ (Kd.R_below (by (with_reducible repeat (first | apply rA_ | apply rN_ | apply rD_)); exact HO137.1) hb)
      have n1_ := Am_ (Kd.R_below (by (with_reducible repeat (first | apply rA_ | apply rN_ | apply rD_)); exact HO144.1) hb)
      have n2_ := Am_ (kB_ (g := gb127) (o := .cells #[.int .i64 a0_0, .int .i64 a0_1, .int .i64 a0_2, .int .i64 a0_3, .slice A0_4 l0_4.length c0_4] 41 (0, 0)) (by (with_reducible repeat (first | refine kN_ ?_ _ | refine kD_ ?_ | refine kA_ ?_ _)); exact BK127.1) hb)
      have n3_ := Am_ (kB_ (g := gb128) (o := .cells #[.int .i64 a1_0, .int .i64 a1_1, .int .i64 a1_2, .int .i64 a1_3, .slice A1_4 l1_4.length c1_4] 41 (0, 0)) (by (with_reducible repeat (first | refine kN_ ?_ _ | refine kD_ ?_ | refine kA_ ?_ _)); exact BK128.1) hb)
      have n4_ := Am_ (bT_ (by repeat (first | (with_reducible first | exact HB.1 | apply bA_ | apply bN_ | apply bD_ | refine bS_ ?_ GE127.1 | refine bS_ ?_ GE128.1) | exact HB.1)) hb)
      clear HO137
      clear HO144
      clear BK127
      clear BK128
      clear HB
      have HO137 := n0_
      have HO144 := n1_
      have BK127 := n2_
      have BK128 := n3_
      have HB := n4_
      clear n0_ n1_ n2_ n3_ n4_
      (try clear hb)
      (try clear hb2)
      (try clear hk)
      (try clear hi)
      refine hK.out _ _ ⟨kC_ BK127.1 0, kC_ BK127.1 1, kC_ BK127.1 2, kC_ BK127.1 3, kC_ BK127.1 4, kC_ BK128.1 0, kC_ BK128.1 1, kC_ BK128.1 2, kC_ BK128.1 3, kC_ BK128.1 4⟩ (fun hHeld => ?_)
      clear hK K
      refine norm_ (a' := ?_) ?_ ?_
      rotate_left
      ·show Act.put _ (some 24) _ = _
       simp only [Act.put, List.setIfInBounds_toArray, List.set_cons_zero, List.set_cons_succ, i64_w, i32_w]
       rfl
      refine pure_ (i := 5) (N := some 6) (v := ?_) (a' := ?_) #[true, true, true, true, true, true] rfl rfl (by kernel_rfl) (fun _ _ _ h => h) (Or.inl ⟨by rfl, ?_⟩) ?_ ?_
      rotate_left
      ·intro w'
       go_simp
       with_reducible rfl
      rotate_left
      ·simp only [Act.put, List.setIfInBounds_toArray, List.set_cons_zero, List.set_cons_succ, i64_w, i32_w]
       rfl
      refine done_ (by kernel_rfl) ?_
      have hcz113_0 : w112.cell? ⟨gb127, 0, none⟩ = some (.int .i64 a0_0) := kC_ BK127.1 0
      have hcz113_1 : w112.cell? ⟨gb127, 1, none⟩ = some (.int .i64 a0_1) := kC_ BK127.1 1
      have hcz113_2 : w112.cell? ⟨gb127, 2, none⟩ = some (.int .i64 a0_2) := kC_ BK127.1 2
      have hcz113_3 : w112.cell? ⟨gb127, 3, none⟩ = some (.int .i64 a0_3) := kC_ BK127.1 3
      have hcz113_4 : w112.cell? ⟨gb127, 4, none⟩ = some (.slice A0_4 l0_4.length c0_4) := kC_ BK127.1 4
      have hfz113_0 := kF_ BK127.1 0
      have hfz113_1 := kF_ BK127.1 1
      have hfz113_2 := kF_ BK127.1 2
      have hfz113_3 := kF_ BK127.1 3
      have hfz113_4 := kF_ BK127.1 4
      try go_wp2_with (first | ((with_reducible refine gate_callee (f := 28) rfl ?_); refine goesL_ (some 26) rfl rfl Try.func28 (by kernel_rfl) rfl #[.agg #[.int .i64 a0_0, .int .i64 a0_1, .int .i64 a0_2, .int .i64 a0_3, .slice A0_4 l0_4.length c0_4]] rfl (by (try simp only [List.map_toArray, List.map_cons, List.map_nil]); first | done | rfl | (simp only [List.length_drop, List.length_take]; rfl)) ?_; (with_reducible refine (laws_toMeshFrame.calls k a0_0 a0_1 a0_2 a0_3 _ _ l0_4 t146 t147 t148 t149 t150 _ ?side1 ?side2 A22.1).mono ?_); (case side1 => repeat (first | exact (Kd.C_below HR0_4.1 HB.1) | (with_reducible refine Kd.C_alloc ?_ _) | (with_reducible refine Kd.C_drewN ?_ _) | (with_reducible refine Kd.C_drew ?_))); (case side2 => exact HC0_4.1); rintro e w114 ⟨v151, rfl, ho0, hb⟩; refine ⟨_, rfl, ?_⟩; have n0_ := Am_ (Kd.R_elder' (by (with_reducible repeat (first | apply rA_ | apply rN_ | apply rD_)); exact HO137.1) (Kd.R_base ho0) hb); have n1_ := Am_ (Kd.R_elder' (by (with_reducible repeat (first | apply rA_ | apply rN_ | apply rD_)); exact HO144.1) (Kd.R_base ho0) hb); have n2_ := Am_ (Kd.R_lower (Kd.R_new' (Kd.R_new' ho0 (Kd.R_lt (by (with_reducible repeat (first | apply rA_ | apply rN_ | apply rD_)); exact HO137.1))) (Kd.R_lt (by (with_reducible repeat (first | apply rA_ | apply rN_ | apply rD_)); exact HO144.1))) (bZ_ (by repeat (first | (with_reducible first | exact HB.1 | apply bA_ | apply bN_ | apply bD_ | refine bS_ ?_ GE127.1 | refine bS_ ?_ GE128.1) | exact HB.1)))); have n3_ := Am_ (kB_ (g := gb127) (o := .cells #[.int .i64 a0_0, .int .i64 a0_1, .int .i64 a0_2, .int .i64 a0_3, .slice A0_4 l0_4.length c0_4] 41 (0, 0)) (by (with_reducible repeat (first | refine kN_ ?_ _ | refine kD_ ?_ | refine kA_ ?_ _)); exact BK127.1) hb); have n4_ := Am_ (kB_ (g := gb128) (o := .cells #[.int .i64 a1_0, .int .i64 a1_1, .int .i64 a1_2, .int .i64 a1_3, .slice A1_4 l1_4.length c1_4] 41 (0, 0)) (by (with_reducible repeat (first | refine kN_ ?_ _ | refine kD_ ?_ | refine kA_ ?_ _)); exact BK128.1) hb); have n5_ := Am_ (bT_ (by repeat (first | (with_reducible first | exact HB.1 | apply bA_ | apply bN_ | apply bD_ | refine bS_ ?_ GE127.1 | refine bS_ ?_ GE128.1) | exact HB.1)) hb); clear HO137 HO144 BK127 BK128 HB; have HO137 := n0_; have HO144 := n1_; have HO152 := n2_; have BK127 := n3_; have BK128 := n4_; have HB := n5_; clear n0_ n1_ n2_ n3_ n4_ n5_; (try clear hb); (try clear hb2); (try clear hk); (try clear hi); (try clear ho0)) | ((with_reducible refine gate_dst (N := 7) rfl ?_); refine box_event ?hg (N := 7) ?hd (cs := #[.int .i64 0, .int .i64 0, .int .i64 0, .int .i64 0, .slice none 0 0]) (t := 44) ?hr ?_; (case hd => rfl); (case hg => rfl); (case hr => first | (go_simp; done) | (go_simp; rfl)); intro gb153 hg w115 hbox hb; have n0_ := Am_ (Kd.R_below (by (with_reducible repeat (first | apply rA_ | apply rN_ | apply rD_)); exact HO137.1) hb); have n1_ := Am_ (Kd.R_below (by (with_reducible repeat (first | apply rA_ | apply rN_ | apply rD_)); exact HO144.1) hb); have n2_ := Am_ (Kd.R_below (by (with_reducible repeat (first | apply rA_ | apply rN_ | apply rD_)); exact HO152.1) hb); have n3_ := Am_ (kB_ (g := gb127) (o := .cells #[.int .i64 a0_0, .int .i64 a0_1, .int .i64 a0_2, .int .i64 a0_3, .slice A0_4 l0_4.length c0_4] 41 (0, 0)) (by (with_reducible repeat (first | refine kN_ ?_ _ | refine kD_ ?_ | refine kA_ ?_ _)); exact BK127.1) hb); have n4_ := Am_ (kB_ (g := gb128) (o := .cells #[.int .i64 a1_0, .int .i64 a1_1, .int .i64 a1_2, .int .i64 a1_3, .slice A1_4 l1_4.length c1_4] 41 (0, 0)) (by (with_reducible repeat (first | refine kN_ ?_ _ | refine kD_ ?_ | refine kA_ ?_ _)); exact BK128.1) hb); have n5_ := Am_ (bT_ (by repeat (first | (with_reducible first | exact HB.1 | apply bA_ | apply bN_ | apply bD_ | refine bS_ ?_ GE127.1 | refine bS_ ?_ GE128.1) | exact HB.1)) hb); have n6_ := Am_ (hbox); have n7_ := Am_ ((by rw [hg]; exact (bZ_ (by repeat (first | (with_reducible first | exact HB.1 | apply bA_ | apply bN_ | apply bD_ | refine bS_ ?_ GE127.1 | refine bS_ ?_ GE128.1) | exact HB.1))) : w.heap.size ≤ gb153)); have n8_ := Am_ ((by rw [hg]; exact (bZ_ (by repeat (first | (with_reducible first | exact HB.1 | apply bA_ | apply bN_ | apply bD_ | refine bS_ ?_ GE127.1 | refine bS_ ?_ GE128.1) | exact HB.1))) : w.heap.size ≤ gb153)); have n9_ := Am_ ((by rw [hg]; exact Nat.ne_of_lt (blk_lt (g := gb127) (o := .cells #[.int .i64 a0_0, .int .i64 a0_1, .int .i64 a0_2, .int .i64 a0_3, .slice A0_4 l0_4.length c0_4] 41 (0, 0)) (by (with_reducible repeat (first | refine kN_ ?_ _ | refine kD_ ?_ | refine kA_ ?_ _)); exact BK127.1)) : gb127 ≠ gb153)); have n10_ := Am_ ((by rw [hg]; exact Nat.ne_of_gt (blk_lt (g := gb127) (o := .cells #[.int .i64 a0_0, .int .i64 a0_1, .int .i64 a0_2, .int .i64 a0_3, .slice A0_4 l0_4.length c0_4] 41 (0, 0)) (by (with_reducible repeat (first | refine kN_ ?_ _ | refine kD_ ?_ | refine kA_ ?_ _)); exact BK127.1)) : gb153 ≠ gb127)); have n11_ := Am_ ((by rw [hg]; exact Nat.ne_of_lt (blk_lt (g := gb128) (o := .cells #[.int .i64 a1_0, .int .i64 a1_1, .int .i64 a1_2, .int .i64 a1_3, .slice A1_4 l1_4.length c1_4] 41 (0, 0)) (by (with_reducible repeat (first | refine kN_ ?_ _ | refine kD_ ?_ | refine kA_ ?_ _)); exact BK128.1)) : gb128 ≠ gb153)); have n12_ := Am_ ((by rw [hg]; exact Nat.ne_of_gt (blk_lt (g := gb128) (o := .cells #[.int .i64 a1_0, .int .i64 a1_1, .int .i64 a1_2, .int .i64 a1_3, .slice A1_4 l1_4.length c1_4] 41 (0, 0)) (by (with_reducible repeat (first | refine kN_ ?_ _ | refine kD_ ?_ | refine kA_ ?_ _)); exact BK128.1)) : gb153 ≠ gb128)); clear HO137 HO144 HO152 BK127 BK128 HB; have HO137 := n0_; have HO144 := n1_; have HO152 := n2_; have BK127 := n3_; have BK128 := n4_; have HB := n5_; have BK153 := n6_; have GW153 := n7_; have GE153 := n8_; have NB127_153 := n9_; have NB153_127 := n10_; have NB128_153 := n11_; have NB153_128 := n12_; clear n0_ n1_ n2_ n3_ n4_ n5_ n6_ n7_ n8_ n9_ n10_ n11_ n12_ hb hbox hg; have hnb116 := NB153_127.1; have hnc116 := NB127_153.1; have hnb117 := NB153_128.1; have hnc117 := NB128_153.1; have hcz118_0 : w115.cell? ⟨gb153, 0, none⟩ = some (.int .i64 0) := kC_ BK153.1 0; have hcz118_1 : w115.cell? ⟨gb153, 1, none⟩ = some (.int .i64 0) := kC_ BK153.1 1; have hcz118_2 : w115.cell? ⟨gb153, 2, none⟩ = some (.int .i64 0) := kC_ BK153.1 2; have hcz118_3 : w115.cell? ⟨gb153, 3, none⟩ = some (.int .i64 0) := kC_ BK153.1 3; have hcz118_4 : w115.cell? ⟨gb153, 4, none⟩ = some (.slice none 0 0) := kC_ BK153.1 4; have hfz118_0 := kF_ BK153.1 0; have hfz118_1 := kF_ BK153.1 1; have hfz118_2 := kF_ BK153.1 2; have hfz118_3 := kF_ BK153.1 3; have hfz118_4 := kF_ BK153.1 4; obtain ⟨Ao119, co119, eo119⟩ := Kd.R_slice HO152.1; subst eo119; have hcz120_0 : w115.cell? ⟨gb128, 0, none⟩ = some (.int .i64 a1_0) := kC_ BK128.1 0; have hcz120_1 : w115.cell? ⟨gb128, 1, none⟩ = some (.int .i64 a1_1) := kC_ BK128.1 1; have hcz120_2 : w115.cell? ⟨gb128, 2, none⟩ = some (.int .i64 a1_2) := kC_ BK128.1 2; have hcz120_3 : w115.cell? ⟨gb128, 3, none⟩ = some (.int .i64 a1_3) := kC_ BK128.1 3; have hcz120_4 : w115.cell? ⟨gb128, 4, none⟩ = some (.slice A1_4 l1_4.length c1_4) := kC_ BK128.1 4; have hfz120_0 := kF_ BK128.1 0; have hfz120_1 := kF_ BK128.1 1; have hfz120_2 := kF_ BK128.1 2; have hfz120_3 := kF_ BK128.1 3; have hfz120_4 := kF_ BK128.1 4) | ((with_reducible refine gate_callee (f := 28) rfl ?_); refine goesL_ (some 28) rfl rfl Try.func28 (by kernel_rfl) rfl #[.agg #[.int .i64 a1_0, .int .i64 a1_1, .int .i64 a1_2, .int .i64 a1_3, .slice A1_4 l1_4.length c1_4]] rfl (by (try simp only [List.map_toArray, List.map_cons, List.map_nil]); first | done | rfl | (simp only [List.length_drop, List.length_take]; rfl)) ?_; (with_reducible refine (laws_toMeshFrame.calls k a1_0 a1_1 a1_2 a1_3 _ _ l1_4 t154 t155 t156 t157 t158 _ ?side1 ?side2 A23.1).mono ?_); (case side1 => exact Kd.C_below HR1_4.1 (by repeat (first | (with_reducible first | exact HB.1 | apply bA_ | apply bN_ | apply bD_ | refine bS_ ?_ GE127.1 | refine bS_ ?_ GE128.1 | refine bS_ ?_ GE153.1) | exact HB.1))); (case side2 => exact HC1_4.1); rintro e w121 ⟨v159, rfl, ho0, hb⟩; refine ⟨_, rfl, ?_⟩; have n0_ := Am_ (Kd.R_elder' (by (with_reducible repeat (first | apply rA_ | apply rN_ | apply rD_)); exact (Kd.R_mono (rF_ (p := ⟨gb153, 4, none⟩) (rF_ (p := ⟨gb153, 3, none⟩) (rF_ (p := ⟨gb153, 2, none⟩) (rF_ (p := ⟨gb153, 1, none⟩) (rF_ (p := ⟨gb153, 0, none⟩) (Kd.R_types HO137.1 BK153.1 (by decide)) (fun _ hk => hk.2) (.int .i64 t146)) (fun _ hk => hk.2) (.int .i64 t147)) (fun _ hk => hk.2) (.int .i64 t148)) (fun _ hk => hk.2) (.int .i64 t149)) (fun _ hk => hk.2) (.slice Ao119 t150.length co119)) (fun _ h_ => h_.1))) (Kd.R_base ho0) hb); have n1_ := Am_ (Kd.R_elder' (by (with_reducible repeat (first | apply rA_ | apply rN_ | apply rD_)); exact (Kd.R_mono (rF_ (p := ⟨gb153, 4, none⟩) (rF_ (p := ⟨gb153, 3, none⟩) (rF_ (p := ⟨gb153, 2, none⟩) (rF_ (p := ⟨gb153, 1, none⟩) (rF_ (p := ⟨gb153, 0, none⟩) (Kd.R_types HO144.1 BK153.1 (by decide)) (fun _ hk => hk.2) (.int .i64 t146)) (fun _ hk => hk.2) (.int .i64 t147)) (fun _ hk => hk.2) (.int .i64 t148)) (fun _ hk => hk.2) (.int .i64 t149)) (fun _ hk => hk.2) (.slice Ao119 t150.length co119)) (fun _ h_ => h_.1))) (Kd.R_base ho0) hb); have n2_ := Am_ (Kd.R_elder' (by (with_reducible repeat (first | apply rA_ | apply rN_ | apply rD_)); exact (Kd.R_mono (rF_ (p := ⟨gb153, 4, none⟩) (rF_ (p := ⟨gb153, 3, none⟩) (rF_ (p := ⟨gb153, 2, none⟩) (rF_ (p := ⟨gb153, 1, none⟩) (rF_ (p := ⟨gb153, 0, none⟩) (Kd.R_types HO152.1 BK153.1 (by decide)) (fun _ hk => hk.2) (.int .i64 t146)) (fun _ hk => hk.2) (.int .i64 t147)) (fun _ hk => hk.2) (.int .i64 t148)) (fun _ hk => hk.2) (.int .i64 t149)) (fun _ hk => hk.2) (.slice Ao119 t150.length co119)) (fun _ h_ => h_.1))) (Kd.R_base ho0) hb); have n3_ := Am_ (Kd.R_lower (Kd.R_new' (Kd.R_new' (Kd.R_new' ho0 (Kd.R_lt (by (with_reducible repeat (first | apply rA_ | apply rN_ | apply rD_)); exact (Kd.R_mono (rF_ (p := ⟨gb153, 4, none⟩) (rF_ (p := ⟨gb153, 3, none⟩) (rF_ (p := ⟨gb153, 2, none⟩) (rF_ (p := ⟨gb153, 1, none⟩) (rF_ (p := ⟨gb153, 0, none⟩) (Kd.R_types HO137.1 BK153.1 (by decide)) (fun _ hk => hk.2) (.int .i64 t146)) (fun _ hk => hk.2) (.int .i64 t147)) (fun _ hk => hk.2) (.int .i64 t148)) (fun _ hk => hk.2) (.int .i64 t149)) (fun _ hk => hk.2) (.slice Ao119 t150.length co119)) (fun _ h_ => h_.1))))) (Kd.R_lt (by (with_reducible repeat (first | apply rA_ | apply rN_ | apply rD_)); exact (Kd.R_mono (rF_ (p := ⟨gb153, 4, none⟩) (rF_ (p := ⟨gb153, 3, none⟩) (rF_ (p := ⟨gb153, 2, none⟩) (rF_ (p := ⟨gb153, 1, none⟩) (rF_ (p := ⟨gb153, 0, none⟩) (Kd.R_types HO144.1 BK153.1 (by decide)) (fun _ hk => hk.2) (.int .i64 t146)) (fun _ hk => hk.2) (.int .i64 t147)) (fun _ hk => hk.2) (.int .i64 t148)) (fun _ hk => hk.2) (.int .i64 t149)) (fun _ hk => hk.2) (.slice Ao119 t150.length co119)) (fun _ h_ => h_.1))))) (Kd.R_lt (by (with_reducible repeat (first | apply rA_ | apply rN_ | apply rD_)); exact (Kd.R_mono (rF_ (p := ⟨gb153, 4, none⟩) (rF_ (p := ⟨gb153, 3, none⟩) (rF_ (p := ⟨gb153, 2, none⟩) (rF_ (p := ⟨gb153, 1, none⟩) (rF_ (p := ⟨gb153, 0, none⟩) (Kd.R_types HO152.1 BK153.1 (by decide)) (fun _ hk => hk.2) (.int .i64 t146)) (fun _ hk => hk.2) (.int .i64 t147)) (fun _ hk => hk.2) (.int .i64 t148)) (fun _ hk => hk.2) (.int .i64 t149)) (fun _ hk => hk.2) (.slice Ao119 t150.length co119)) (fun _ h_ => h_.1))))) (bZ_ (by repeat (first | (with_reducible first | exact HB.1 | apply bA_ | apply bN_ | apply bD_ | refine bS_ ?_ GE127.1 | refine bS_ ?_ GE128.1 | refine bS_ ?_ GE153.1) | exact HB.1)))); have n4_ := Am_ (kB_ (g := gb127) (o := .cells #[.int .i64 a0_0, .int .i64 a0_1, .int .i64 a0_2, .int .i64 a0_3, .slice A0_4 l0_4.length c0_4] 41 (0, 0)) (by (with_reducible repeat (first | refine kN_ ?_ _ | refine kD_ ?_ | refine kA_ ?_ _)); refine blk_far ?_ NB127_153.1 _; (with_reducible repeat (first | refine kN_ ?_ _ | refine kD_ ?_ | refine kA_ ?_ _)); refine blk_far ?_ NB127_153.1 _; (with_reducible repeat (first | refine kN_ ?_ _ | refine kD_ ?_ | refine kA_ ?_ _)); refine blk_far ?_ NB127_153.1 _; (with_reducible repeat (first | refine kN_ ?_ _ | refine kD_ ?_ | refine kA_ ?_ _)); refine blk_far ?_ NB127_153.1 _; (with_reducible repeat (first | refine kN_ ?_ _ | refine kD_ ?_ | refine kA_ ?_ _)); refine blk_far ?_ NB127_153.1 _; (with_reducible repeat (first | refine kN_ ?_ _ | refine kD_ ?_ | refine kA_ ?_ _)); exact BK127.1) hb); have n5_ := Am_ (kB_ (g := gb128) (o := .cells #[.int .i64 a1_0, .int .i64 a1_1, .int .i64 a1_2, .int .i64 a1_3, .slice A1_4 l1_4.length c1_4] 41 (0, 0)) (by (with_reducible repeat (first | refine kN_ ?_ _ | refine kD_ ?_ | refine kA_ ?_ _)); refine blk_far ?_ NB128_153.1 _; (with_reducible repeat (first | refine kN_ ?_ _ | refine kD_ ?_ | refine kA_ ?_ _)); refine blk_far ?_ NB128_153.1 _; (with_reducible repeat (first | refine kN_ ?_ _ | refine kD_ ?_ | refine kA_ ?_ _)); refine blk_far ?_ NB128_153.1 _; (with_reducible repeat (first | refine kN_ ?_ _ | refine kD_ ?_ | refine kA_ ?_ _)); refine blk_far ?_ NB128_153.1 _; (with_reducible repeat (first | refine kN_ ?_ _ | refine kD_ ?_ | refine kA_ ?_ _)); refine blk_far ?_ NB128_153.1 _; (with_reducible repeat (first | refine kN_ ?_ _ | refine kD_ ?_ | refine kA_ ?_ _)); exact BK128.1) hb); have n6_ := Am_ (kB_ (g := gb153) (o := .cells #[.int .i64 t146, .int .i64 t147, .int .i64 t148, .int .i64 t149, .slice Ao119 t150.length co119] 44 (0, 0)) (by (with_reducible repeat (first | refine kN_ ?_ _ | refine kD_ ?_ | refine kA_ ?_ _)); refine blk_put (cs := #[.int .i64 t146, .int .i64 t147, .int .i64 t148, .int .i64 t149, .slice none 0 0]) ?_ 4 _ rfl; (with_reducible repeat (first | refine kN_ ?_ _ | refine kD_ ?_ | refine kA_ ?_ _)); refine blk_put (cs := #[.int .i64 t146, .int .i64 t147, .int .i64 t148, .int .i64 0, .slice none 0 0]) ?_ 3 _ rfl; (with_reducible repeat (first | refine kN_ ?_ _ | refine kD_ ?_ | refine kA_ ?_ _)); refine blk_put (cs := #[.int .i64 t146, .int .i64 t147, .int .i64 0, .int .i64 0, .slice none 0 0]) ?_ 2 _ rfl; (with_reducible repeat (first | refine kN_ ?_ _ | refine kD_ ?_ | refine kA_ ?_ _)); refine blk_put (cs := #[.int .i64 t146, .int .i64 0, .int .i64 0, .int .i64 0, .slice none 0 0]) ?_ 1 _ rfl; (with_reducible repeat (first | refine kN_ ?_ _ | refine kD_ ?_ | refine kA_ ?_ _)); refine blk_put (cs := #[.int .i64 0, .int .i64 0, .int .i64 0, .int .i64 0, .slice none 0 0]) ?_ 0 _ rfl; (with_reducible repeat (first | refine kN_ ?_ _ | refine kD_ ?_ | refine kA_ ?_ _)); exact BK153.1) hb); have n7_ := Am_ (bT_ (by repeat (first | (with_reducible first | exact HB.1 | apply bA_ | apply bN_ | apply bD_ | refine bS_ ?_ GE127.1 | refine bS_ ?_ GE128.1 | refine bS_ ?_ GE153.1) | exact HB.1)) hb); clear HO137 HO144 HO152 BK127 BK128 BK153 HB; have HO137 := n0_; have HO144 := n1_; have HO152 := n2_; have HO160 := n3_; have BK127 := n4_; have BK128 := n5_; have BK153 := n6_; have HB := n7_; clear n0_ n1_ n2_ n3_ n4_ n5_ n6_ n7_; (try clear hb); (try clear hb2); (try clear hk); (try clear hi); (try clear ho0)) | ((with_reducible refine gate_dst (N := 8) rfl ?_); refine box_event ?hg (N := 8) ?hd (cs := #[.int .i64 0, .int .i64 0, .int .i64 0, .int .i64 0, .slice none 0 0]) (t := 44) ?hr ?_; (case hd => rfl); (case hg => rfl); (case hr => first | (go_simp; done) | (go_simp; rfl)); intro gb161 hg w122 hbox hb; have n0_ := Am_ (Kd.R_below (by (with_reducible repeat (first | apply rA_ | apply rN_ | apply rD_)); exact HO137.1) hb); have n1_ := Am_ (Kd.R_below (by (with_reducible repeat (first | apply rA_ | apply rN_ | apply rD_)); exact HO144.1) hb); have n2_ := Am_ (Kd.R_below (by (with_reducible repeat (first | apply rA_ | apply rN_ | apply rD_)); exact HO152.1) hb); have n3_ := Am_ (Kd.R_below (by (with_reducible repeat (first | apply rA_ | apply rN_ | apply rD_)); exact HO160.1) hb); have n4_ := Am_ (kB_ (g := gb127) (o := .cells #[.int .i64 a0_0, .int .i64 a0_1, .int .i64 a0_2, .int .i64 a0_3, .slice A0_4 l0_4.length c0_4] 41 (0, 0)) (by (with_reducible repeat (first | refine kN_ ?_ _ | refine kD_ ?_ | refine kA_ ?_ _)); exact BK127.1) hb); have n5_ := Am_ (kB_ (g := gb128) (o := .cells #[.int .i64 a1_0, .int .i64 a1_1, .int .i64 a1_2, .int .i64 a1_3, .slice A1_4 l1_4.length c1_4] 41 (0, 0)) (by (with_reducible repeat (first | refine kN_ ?_ _ | refine kD_ ?_ | refine kA_ ?_ _)); exact BK128.1) hb); have n6_ := Am_ (kB_ (g := gb153) (o := .cells #[.int .i64 t146, .int .i64 t147, .int .i64 t148, .int .i64 t149, .slice Ao119 t150.length co119] 44 (0, 0)) (by (with_reducible repeat (first | refine kN_ ?_ _ | refine kD_ ?_ | refine kA_ ?_ _)); exact BK153.1) hb); have n7_ := Am_ (bT_ (by repeat (first | (with_reducible first | exact HB.1 | apply bA_ | apply bN_ | apply bD_ | refine bS_ ?_ GE127.1 | refine bS_ ?_ GE128.1 | refine bS_ ?_ GE153.1) | exact HB.1)) hb); have n8_ := Am_ (hbox); have n9_ := Am_ ((by rw [hg]; exact (bZ_ (by repeat (first | (with_reducible first | exact HB.1 | apply bA_ | apply bN_ | apply bD_ | refine bS_ ?_ GE127.1 | refine bS_ ?_ GE128.1 | refine bS_ ?_ GE153.1) | exact HB.1))) : w.heap.size ≤ gb161)); have n10_ := Am_ ((by rw [hg]; exact (bZ_ (by repeat (first | (with_reducible first | exact HB.1 | apply bA_ | apply bN_ | apply bD_ | refine bS_ ?_ GE127.1 | refine bS_ ?_ GE128.1 | refine bS_ ?_ GE153.1) | exact HB.1))) : w.heap.size ≤ gb161)); have n11_ := Am_ ((by rw [hg]; exact Nat.ne_of_lt (blk_lt (g := gb127) (o := .cells #[.int .i64 a0_0, .int .i64 a0_1, .int .i64 a0_2, .int .i64 a0_3, .slice A0_4 l0_4.length c0_4] 41 (0, 0)) (by (with_reducible repeat (first | refine kN_ ?_ _ | refine kD_ ?_ | refine kA_ ?_ _)); exact BK127.1)) : gb127 ≠ gb161)); have n12_ := Am_ ((by rw [hg]; exact Nat.ne_of_gt (blk_lt (g := gb127) (o := .cells #[.int .i64 a0_0, .int .i64 a0_1, .int .i64 a0_2, .int .i64 a0_3, .slice A0_4 l0_4.length c0_4] 41 (0, 0)) (by (with_reducible repeat (first | refine kN_ ?_ _ | refine kD_ ?_ | refine kA_ ?_ _)); exact BK127.1)) : gb161 ≠ gb127)); have n13_ := Am_ ((by rw [hg]; exact Nat.ne_of_lt (blk_lt (g := gb128) (o := .cells #[.int .i64 a1_0, .int .i64 a1_1, .int .i64 a1_2, .int .i64 a1_3, .slice A1_4 l1_4.length c1_4] 41 (0, 0)) (by (with_reducible repeat (first | refine kN_ ?_ _ | refine kD_ ?_ | refine kA_ ?_ _)); exact BK128.1)) : gb128 ≠ gb161)); have n14_ := Am_ ((by rw [hg]; exact Nat.ne_of_gt (blk_lt (g := gb128) (o := .cells #[.int .i64 a1_0, .int .i64 a1_1, .int .i64 a1_2, .int .i64 a1_3, .slice A1_4 l1_4.length c1_4] 41 (0, 0)) (by (with_reducible repeat (first | refine kN_ ?_ _ | refine kD_ ?_ | refine kA_ ?_ _)); exact BK128.1)) : gb161 ≠ gb128)); have n15_ := Am_ ((by rw [hg]; exact Nat.ne_of_lt (blk_lt (g := gb153) (o := .cells #[.int .i64 t146, .int .i64 t147, .int .i64 t148, .int .i64 t149, .slice Ao119 t150.length co119] 44 (0, 0)) (by (with_reducible repeat (first | refine kN_ ?_ _ | refine kD_ ?_ | refine kA_ ?_ _)); exact BK153.1)) : gb153 ≠ gb161)); have n16_ := Am_ ((by rw [hg]; exact Nat.ne_of_gt (blk_lt (g := gb153) (o := .cells #[.int .i64 t146, .int .i64 t147, .int .i64 t148, .int .i64 t149, .slice Ao119 t150.length co119] 44 (0, 0)) (by (with_reducible repeat (first | refine kN_ ?_ _ | refine kD_ ?_ | refine kA_ ?_ _)); exact BK153.1)) : gb161 ≠ gb153)); clear HO137 HO144 HO152 HO160 BK127 BK128 BK153 HB; have HO137 := n0_; have HO144 := n1_; have HO152 := n2_; have HO160 := n3_; have BK127 := n4_; have BK128 := n5_; have BK153 := n6_; have HB := n7_; have BK161 := n8_; have GW161 := n9_; have GE161 := n10_; have NB127_161 := n11_; have NB161_127 := n12_; have NB128_161 := n13_; have NB161_128 := n14_; have NB153_161 := n15_; have NB161_153 := n16_; clear n0_ n1_ n2_ n3_ n4_ n5_ n6_ n7_ n8_ n9_ n10_ n11_ n12_ n13_ n14_ n15_ n16_ hb hbox hg; have hnb123 := NB161_127.1; have hnc123 := NB127_161.1; have hnb124 := NB161_128.1; have hnc124 := NB128_161.1; have hnb125 := NB161_153.1; have hnc125 := NB153_161.1; have hcz126_0 : w122.cell? ⟨gb161, 0, none⟩ = some (.int .i64 0) := kC_ BK161.1 0; have hcz126_1 : w122.cell? ⟨gb161, 1, none⟩ = some (.int .i64 0) := kC_ BK161.1 1; have hcz126_2 : w122.cell? ⟨gb161, 2, none⟩ = some (.int .i64 0) := kC_ BK161.1 2; have hcz126_3 : w122.cell? ⟨gb161, 3, none⟩ = some (.int .i64 0) := kC_ BK161.1 3; have hcz126_4 : w122.cell? ⟨gb161, 4, none⟩ = some (.slice none 0 0) := kC_ BK161.1 4; have hfz126_0 := kF_ BK161.1 0; have hfz126_1 := kF_ BK161.1 1; have hfz126_2 := kF_ BK161.1 2; have hfz126_3 := kF_ BK161.1 3; have hfz126_4 := kF_ BK161.1 4; obtain ⟨Ao127, co127, eo127⟩ := Kd.R_slice HO160.1; subst eo127; have hcz128_0 : w122.cell? ⟨gb153, 0, none⟩ = some (.int .i64 t146) := kC_ BK153.1 0; have hcz128_1 : w122.cell? ⟨gb153, 1, none⟩ = some (.int .i64 t147) := kC_ BK153.1 1; have hcz128_2 : w122.cell? ⟨gb153, 2, none⟩ = some (.int .i64 t148) := kC_ BK153.1 2; have hcz128_3 : w122.cell? ⟨gb153, 3, none⟩ = some (.int .i64 t149) := kC_ BK153.1 3; have hcz128_4 : w122.cell? ⟨gb153, 4, none⟩ = some (.slice Ao119 t150.length co119) := kC_ BK153.1 4; have hfz128_0 := kF_ BK153.1 0; have hfz128_1 := kF_ BK153.1 1; have hfz128_2 := kF_ BK153.1 2; have hfz128_3 := kF_ BK153.1 3; have hfz128_4 := kF_ BK153.1 4) | ((with_reducible refine gate_callee (f := 29) rfl ?_); refine goesL_ (some 31) rfl rfl Try.func29 (by kernel_rfl) rfl #[.agg #[.int .i64 t146, .int .i64 t147, .int .i64 t148, .int .i64 t149, .slice Ao119 t150.length co119], .agg #[.int .i64 t154, .int .i64 t155, .int .i64 t156, .int .i64 t157, .slice Ao127 t158.length co127]] rfl (by (try simp only [List.map_toArray, List.map_cons, List.map_nil]); first | done | rfl | (simp only [List.length_drop, List.length_take]; rfl)) ?_; (with_reducible refine (impl_EqualMeshFrames.calls k t146 t147 t148 t149 _ _ t150 t154 t155 t156 t157 _ _ t158 t162 _ ?side1 ?side2 ?side3 ?side4 A24.1).mono ?_); (case side1 => refine (Kd.R_reads' (e := 5) (base := w.heap.size) (ok := fun k_ => (((True ∧ some k_ ≠ (.slice Ao110 t135.length co110 : Value).ownBlock) ∧ some k_ ≠ (.slice Ao111 t142.length co111 : Value).ownBlock) ∧ some k_ ≠ (.slice Ao127 t158.length co127 : Value).ownBlock)) (n := t150.length) (c := co119) ?_).2.2; exact (by (with_reducible repeat (first | apply rA_ | apply rN_ | apply rD_)); exact (Kd.R_mono (rF_ (p := ⟨gb161, 4, none⟩) (rF_ (p := ⟨gb161, 3, none⟩) (rF_ (p := ⟨gb161, 2, none⟩) (rF_ (p := ⟨gb161, 1, none⟩) (rF_ (p := ⟨gb161, 0, none⟩) (Kd.R_types HO152.1 BK161.1 (by decide)) (fun _ hk => hk.2) (.int .i64 t154)) (fun _ hk => hk.2) (.int .i64 t155)) (fun _ hk => hk.2) (.int .i64 t156)) (fun _ hk => hk.2) (.int .i64 t157)) (fun _ hk => hk.2) (.slice Ao127 t158.length co127)) (fun _ h_ => h_.1)))); (case side2 => exact (Kd.R_reads' HO152.1).2.1); (case side3 => refine (Kd.R_reads' (e := 5) (base := w.heap.size) (ok := fun k_ => (((True ∧ some k_ ≠ (.slice Ao110 t135.length co110 : Value).ownBlock) ∧ some k_ ≠ (.slice Ao111 t142.length co111 : Value).ownBlock) ∧ some k_ ≠ (.slice Ao119 t150.length co119 : Value).ownBlock)) (n := t158.length) (c := co127) ?_).2.2; exact (by (with_reducible repeat (first | apply rA_ | apply rN_ | apply rD_)); exact (Kd.R_mono (rF_ (p := ⟨gb161, 4, none⟩) (rF_ (p := ⟨gb161, 3, none⟩) (rF_ (p := ⟨gb161, 2, none⟩) (rF_ (p := ⟨gb161, 1, none⟩) (rF_ (p := ⟨gb161, 0, none⟩) (Kd.R_types HO160.1 BK161.1 (by decide)) (fun _ hk => hk.2) (.int .i64 t154)) (fun _ hk => hk.2) (.int .i64 t155)) (fun _ hk => hk.2) (.int .i64 t156)) (fun _ hk => hk.2) (.int .i64 t157)) (fun _ hk => hk.2) (.slice Ao127 t158.length co127)) (fun _ h_ => h_.1)))); (case side4 => exact (Kd.R_reads' HO160.1).2.1); rintro e w129 ⟨rfl, hb⟩; refine ⟨_, rfl, ?_⟩; have n0_ := Am_ (Kd.R_below (by (with_reducible repeat (first | apply rA_ | apply rN_ | apply rD_)); exact (Kd.R_mono (rF_ (p := ⟨gb161, 4, none⟩) (rF_ (p := ⟨gb161, 3, none⟩) (rF_ (p := ⟨gb161, 2, none⟩) (rF_ (p := ⟨gb161, 1, none⟩) (rF_ (p := ⟨gb161, 0, none⟩) (Kd.R_types HO137.1 BK161.1 (by decide)) (fun _ hk => hk.2) (.int .i64 t154)) (fun _ hk => hk.2) (.int .i64 t155)) (fun _ hk => hk.2) (.int .i64 t156)) (fun _ hk => hk.2) (.int .i64 t157)) (fun _ hk => hk.2) (.slice Ao127 t158.length co127)) (fun _ h_ => h_.1))) hb); have n1_ := Am_ (Kd.R_below (by (with_reducible repeat (first | apply rA_ | apply rN_ | apply rD_)); exact (Kd.R_mono (rF_ (p := ⟨gb161, 4, none⟩) (rF_ (p := ⟨gb161, 3, none⟩) (rF_ (p := ⟨gb161, 2, none⟩) (rF_ (p := ⟨gb161, 1, none⟩) (rF_ (p := ⟨gb161, 0, none⟩) (Kd.R_types HO144.1 BK161.1 (by decide)) (fun _ hk => hk.2) (.int .i64 t154)) (fun _ hk => hk.2) (.int .i64 t155)) (fun _ hk => hk.2) (.int .i64 t156)) (fun _ hk => hk.2) (.int .i64 t157)) (fun _ hk => hk.2) (.slice Ao127 t158.length co127)) (fun _ h_ => h_.1))) hb); have n2_ := Am_ (Kd.R_below (by (with_reducible repeat (first | apply rA_ | apply rN_ | apply rD_)); exact (Kd.R_mono (rF_ (p := ⟨gb161, 4, none⟩) (rF_ (p := ⟨gb161, 3, none⟩) (rF_ (p := ⟨gb161, 2, none⟩) (rF_ (p := ⟨gb161, 1, none⟩) (rF_ (p := ⟨gb161, 0, none⟩) (Kd.R_types HO152.1 BK161.1 (by decide)) (fun _ hk => hk.2) (.int .i64 t154)) (fun _ hk => hk.2) (.int .i64 t155)) (fun _ hk => hk.2) (.int .i64 t156)) (fun _ hk => hk.2) (.int .i64 t157)) (fun _ hk => hk.2) (.slice Ao127 t158.length co127)) (fun _ h_ => h_.1))) hb); have n3_ := Am_ (Kd.R_below (by (with_reducible repeat (first | apply rA_ | apply rN_ | apply rD_)); exact (Kd.R_mono (rF_ (p := ⟨gb161, 4, none⟩) (rF_ (p := ⟨gb161, 3, none⟩) (rF_ (p := ⟨gb161, 2, none⟩) (rF_ (p := ⟨gb161, 1, none⟩) (rF_ (p := ⟨gb161, 0, none⟩) (Kd.R_types HO160.1 BK161.1 (by decide)) (fun _ hk => hk.2) (.int .i64 t154)) (fun _ hk => hk.2) (.int .i64 t155)) (fun _ hk => hk.2) (.int .i64 t156)) (fun _ hk => hk.2) (.int .i64 t157)) (fun _ hk => hk.2) (.slice Ao127 t158.length co127)) (fun _ h_ => h_.1))) hb); have n4_ := Am_ (kB_ (g := gb127) (o := .cells #[.int .i64 a0_0, .int .i64 a0_1, .int .i64 a0_2, .int .i64 a0_3, .slice A0_4 l0_4.length c0_4] 41 (0, 0)) (by (with_reducible repeat (first | refine kN_ ?_ _ | refine kD_ ?_ | refine kA_ ?_ _)); refine blk_far ?_ NB127_161.1 _; (with_reducible repeat (first | refine kN_ ?_ _ | refine kD_ ?_ | refine kA_ ?_ _)); refine blk_far ?_ NB127_161.1 _; (with_reducible repeat (first | refine kN_ ?_ _ | refine kD_ ?_ | refine kA_ ?_ _)); refine blk_far ?_ NB127_161.1 _; (with_reducible repeat (first | refine kN_ ?_ _ | refine kD_ ?_ | refine kA_ ?_ _)); refine blk_far ?_ NB127_161.1 _; (with_reducible repeat (first | refine kN_ ?_ _ | refine kD_ ?_ | refine kA_ ?_ _)); refine blk_far ?_ NB127_161.1 _; (with_reducible repeat (first | refine kN_ ?_ _ | refine kD_ ?_ | refine kA_ ?_ _)); exact BK127.1) hb); have n5_ := Am_ (kB_ (g := gb128) (o := .cells #[.int .i64 a1_0, .int .i64 a1_1, .int .i64 a1_2, .int .i64 a1_3, .slice A1_4 l1_4.length c1_4] 41 (0, 0)) (by (with_reducible repeat (first | refine kN_ ?_ _ | refine kD_ ?_ | refine kA_ ?_ _)); refine blk_far ?_ NB128_161.1 _; (with_reducible repeat (first | refine kN_ ?_ _ | refine kD_ ?_ | refine kA_ ?_ _)); refine blk_far ?_ NB128_161.1 _; (with_reducible repeat (first | refine kN_ ?_ _ | refine kD_ ?_ | refine kA_ ?_ _)); refine blk_far ?_ NB128_161.1 _; (with_reducible repeat (first | refine kN_ ?_ _ | refine kD_ ?_ | refine kA_ ?_ _)); refine blk_far ?_ NB128_161.1 _; (with_reducible repeat (first | refine kN_ ?_ _ | refine kD_ ?_ | refine kA_ ?_ _)); refine blk_far ?_ NB128_161.1 _; (with_reducible repeat (first | refine kN_ ?_ _ | refine kD_ ?_ | refine kA_ ?_ _)); exact BK128.1) hb); have n6_ := Am_ (kB_ (g := gb153) (o := .cells #[.int .i64 t146, .int .i64 t147, .int .i64 t148, .int .i64 t149, .slice Ao119 t150.length co119] 44 (0, 0)) (by (with_reducible repeat (first | refine kN_ ?_ _ | refine kD_ ?_ | refine kA_ ?_ _)); refine blk_far ?_ NB153_161.1 _; (with_reducible repeat (first | refine kN_ ?_ _ | refine kD_ ?_ | refine kA_ ?_ _)); refine blk_far ?_ NB153_161.1 _; (with_reducible repeat (first | refine kN_ ?_ _ | refine kD_ ?_ | refine kA_ ?_ _)); refine blk_far ?_ NB153_161.1 _; (with_reducible repeat (first | refine kN_ ?_ _ | refine kD_ ?_ | refine kA_ ?_ _)); refine blk_far ?_ NB153_161.1 _; (with_reducible repeat (first | refine kN_ ?_ _ | refine kD_ ?_ | refine kA_ ?_ _)); refine blk_far ?_ NB153_161.1 _; (with_reducible repeat (first | refine kN_ ?_ _ | refine kD_ ?_ | refine kA_ ?_ _)); exact BK153.1) hb); have n7_ := Am_ (kB_ (g := gb161) (o := .cells #[.int .i64 t154, .int .i64 t155, .int .i64 t156, .int .i64 t157, .slice Ao127 t158.length co127] 44 (0, 0)) (by (with_reducible repeat (first | refine kN_ ?_ _ | refine kD_ ?_ | refine kA_ ?_ _)); refine blk_put (cs := #[.int .i64 t154, .int .i64 t155, .int .i64 t156, .int .i64 t157, .slice none 0 0]) ?_ 4 _ rfl; (with_reducible repeat (first | refine kN_ ?_ _ | refine kD_ ?_ | refine kA_ ?_ _)); refine blk_put (cs := #[.int .i64 t154, .int .i64 t155, .int .i64 t156, .int .i64 0, .slice none 0 0]) ?_ 3 _ rfl; (with_reducible repeat (first | refine kN_ ?_ _ | refine kD_ ?_ | refine kA_ ?_ _)); refine blk_put (cs := #[.int .i64 t154, .int .i64 t155, .int .i64 0, .int .i64 0, .slice none 0 0]) ?_ 2 _ rfl; (with_reducible repeat (first | refine kN_ ?_ _ | refine kD_ ?_ | refine kA_ ?_ _)); refine blk_put (cs := #[.int .i64 t154, .int .i64 0, .int .i64 0, .int .i64 0, .slice none 0 0]) ?_ 1 _ rfl; (with_reducible repeat (first | refine kN_ ?_ _ | refine kD_ ?_ | refine kA_ ?_ _)); refine blk_put (cs := #[.int .i64 0, .int .i64 0, .int .i64 0, .int .i64 0, .slice none 0 0]) ?_ 0 _ rfl; (with_reducible repeat (first | refine kN_ ?_ _ | refine kD_ ?_ | refine kA_ ?_ _)); exact BK161.1) hb); have n8_ := Am_ (bT_ (by repeat (first | (with_reducible first | exact HB.1 | apply bA_ | apply bN_ | apply bD_ | refine bS_ ?_ GE127.1 | refine bS_ ?_ GE128.1 | refine bS_ ?_ GE153.1 | refine bS_ ?_ GE161.1) | exact HB.1)) hb); clear HO137 HO144 HO152 HO160 BK127 BK128 BK153 BK161 HB; have HO137 := n0_; have HO144 := n1_; have HO152 := n2_; have HO160 := n3_; have BK127 := n4_; have BK128 := n5_; have BK153 := n6_; have BK161 := n7_; have HB := n8_; clear n0_ n1_ n2_ n3_ n4_ n5_ n6_ n7_ n8_; (try clear hb); (try clear hb2); (try clear hk); (try clear hi)))
      have n0_ := Am_ (rD_ HO137.1)
      have n1_ := Am_ (rD_ HO144.1)
      have n2_ := Am_ (rD_ HO152.1)
      have n3_ := Am_ (rD_ HO160.1)
      have n4_ := Am_ (kD_ BK127.1)
      have n5_ := Am_ (kD_ BK128.1)
      have n6_ := Am_ (kD_ BK153.1)
      have n7_ := Am_ (kD_ BK161.1)
      have n8_ := Am_ (bD_ HB.1)
      clear HO137
      clear HO144
      clear HO152
      clear HO160
      clear BK127
      clear BK128
      clear BK153
      clear BK161
      clear HB
      have HO137 := n0_
      have HO144 := n1_
      have HO152 := n2_
      have HO160 := n3_
      have BK127 := n4_
      have BK128 := n5_
      have BK153 := n6_
      have BK161 := n7_
      have HB := n8_
      clear n0_ n1_ n2_ n3_ n4_ n5_ n6_ n7_ n8_
      refine start_ (n := 5) (S := fun w' => w'.cell? ⟨gb153, 0, none⟩ = some (.int .i64 t146) ∧ w'.cell? ⟨gb153, 1, none⟩ = some (.int .i64 t147) ∧ w'.cell? ⟨gb153, 2, none⟩ = some (.int .i64 t148) ∧ w'.cell? ⟨gb153, 3, none⟩ = some (.int .i64 t149) ∧ w'.cell? ⟨gb153, 4, none⟩ = some (.slice Ao119 t150.length co119) ∧ w'.cell? ⟨gb127, 0, none⟩ = some (.int .i64 a0_0) ∧ w'.cell? ⟨gb127, 1, none⟩ = some (.int .i64 a0_1) ∧ w'.cell? ⟨gb127, 2, none⟩ = some (.int .i64 a0_2) ∧ w'.cell? ⟨gb127, 3, none⟩ = some (.int .i64 a0_3) ∧ w'.cell? ⟨gb127, 4, none⟩ = some (.slice A0_4 l0_4.length c0_4)) (ds := []) #[false, false, false, false, false] (by kernel_rfl) rfl rfl ⟨kC_ BK153.1 0, kC_ BK153.1 1, kC_ BK153.1 2, kC_ BK153.1 3, kC_ BK153.1 4, kC_ BK127.1 0, kC_ BK127.1 1, kC_ BK127.1 2, kC_ BK127.1 3, kC_ BK127.1 4⟩ (fun hHeld => ?_)
      generalize w129.drew = w130 at HO137 HO144 HO152 HO160 BK127 BK128 BK153 BK161 HB hHeld ⊢
      refine take_ (i := 0) (N := some 35) (v := ?_) (a' := ?_) #[true, false, false, false, false] rfl rfl (by kernel_rfl) (fun _ _ _ h => h) (Or.inl ⟨by rfl, ?_⟩) hHeld ?_ ?_
      rotate_left
      ·rintro w' ⟨s0, s1, s2, s3, s4, s5, s6, s7, s8, s9⟩
       go_simp
       with_reducible rfl
      rotate_left
      ·simp only [Act.put, List.setIfInBounds_toArray, List.set_cons_zero, List.set_cons_succ, i64_w, i32_w]
       rfl
      refine take_ (i := 1) (N := some 36) (v := ?_) (a' := ?_) #[true, true, false, false, false] rfl rfl (by kernel_rfl) (fun _ _ _ h => h) (Or.inl ⟨by rfl, ?_⟩) hHeld ?_ ?_
      rotate_left
      ·rintro w' ⟨s0, s1, s2, s3, s4, s5, s6, s7, s8, s9⟩
       go_simp
       with_reducible rfl
      rotate_left
      ·simp only [Act.put, List.setIfInBounds_toArray, List.set_cons_zero, List.set_cons_succ, i64_w, i32_w]
       rfl
      refine one_ (i := 2) (N := some 37) #[true, true, true, false, false] rfl rfl (by kernel_rfl) (by decide) (fun K hK => ?_)
      refine goes_ Try.func28 (by kernel_rfl) rfl #[.agg #[.int .i64 a0_0, .int .i64 a0_1, .int .i64 a0_2, .int .i64 a0_3, .slice A0_4 l0_4.length c0_4]] (by rfl) rfl rfl (by (try simp only [List.map_toArray, List.map_cons, List.map_nil]); first | done | rfl | (simp only [List.length_drop, List.length_take]; rfl)) ?_
      with_reducible refine (laws_toMeshFrame.calls k a0_0 a0_1 a0_2 a0_3 _ _ l0_4 t163 t164 t165 t166 t167 _ ?side1 ?side2 A56.1).mono ?_
      (case side1 => repeat (first | exact (Kd.C_below HR0_4.1 HB.1) | (with_reducible refine Kd.C_alloc ?_ _) | (with_reducible refine Kd.C_drewN ?_ _) | (with_reducible refine Kd.C_drew ?_)))
      (case side2 => exact HC0_4.1)
      rintro e w131 ⟨v168, rfl, ho0, hb⟩
      refine ⟨_, rfl, ?_⟩
      have n0_ := Am_ (Kd.R_elder' (by (with_reducible repeat (first | apply rA_ | apply rN_ | apply rD_)); exact HO137.1) (Kd.R_base ho0) hb)
      have n1_ := Am_ (Kd.R_elder' (by (with_reducible repeat (first | apply rA_ | apply rN_ | apply rD_)); exact HO144.1) (Kd.R_base ho0) hb)
      have n2_ := Am_ (Kd.R_elder' (by (with_reducible repeat (first | apply rA_ | apply rN_ | apply rD_)); exact HO152.1) (Kd.R_base ho0) hb)
      have n3_ := Am_ (Kd.R_elder' (by (with_reducible repeat (first | apply rA_ | apply rN_ | apply rD_)); exact HO160.1) (Kd.R_base ho0) hb)
      have n4_ := Am_ (Kd.R_lower (Kd.R_new' (Kd.R_new' (Kd.R_new' (Kd.R_new' ho0 (Kd.R_lt (by (with_reducible repeat (first | apply rA_ | apply rN_ | apply rD_)); exact HO137.1))) (Kd.R_lt (by (with_reducible repeat (first | apply rA_ | apply rN_ | apply rD_)); exact HO144.1))) (Kd.R_lt (by (with_reducible repeat (first | apply rA_ | apply rN_ | apply rD_)); exact HO152.1))) (Kd.R_lt (by (with_reducible repeat (first | apply rA_ | apply rN_ | apply rD_)); exact HO160.1))) (bZ_ (by repeat (first | (with_reducible first | exact HB.1 | apply bA_ | apply bN_ | apply bD_ | refine bS_ ?_ GE127.1 | refine bS_ ?_ GE128.1 | refine bS_ ?_ GE153.1 | refine bS_ ?_ GE161.1) | exact HB.1))))
      have n5_ := Am_ (kB_ (g := gb127) (o := .cells #[.int .i64 a0_0, .int .i64 a0_1, .int .i64 a0_2, .int .i64 a0_3, .slice A0_4 l0_4.length c0_4] 41 (0, 0)) (by (with_reducible repeat (first | refine kN_ ?_ _ | refine kD_ ?_ | refine kA_ ?_ _)); exact BK127.1) hb)
      have n6_ := Am_ (kB_ (g := gb128) (o := .cells #[.int .i64 a1_0, .int .i64 a1_1, .int .i64 a1_2, .int .i64 a1_3, .slice A1_4 l1_4.length c1_4] 41 (0, 0)) (by (with_reducible repeat (first | refine kN_ ?_ _ | refine kD_ ?_ | refine kA_ ?_ _)); exact BK128.1) hb)
      have n7_ := Am_ (kB_ (g := gb153) (o := .cells #[.int .i64 t146, .int .i64 t147, .int .i64 t148, .int .i64 t149, .slice Ao119 t150.length co119] 44 (0, 0)) (by (with_reducible repeat (first | refine kN_ ?_ _ | refine kD_ ?_ | refine kA_ ?_ _)); exact BK153.1) hb)
      have n8_ := Am_ (kB_ (g := gb161) (o := .cells #[.int .i64 t154, .int .i64 t155, .int .i64 t156, .int .i64 t157, .slice Ao127 t158.length co127] 44 (0, 0)) (by (with_reducible repeat (first | refine kN_ ?_ _ | refine kD_ ?_ | refine kA_ ?_ _)); exact BK161.1) hb)
      have n9_ := Am_ (bT_ (by repeat (first | (with_reducible first | exact HB.1 | apply bA_ | apply bN_ | apply bD_ | refine bS_ ?_ GE127.1 | refine bS_ ?_ GE128.1 | refine bS_ ?_ GE153.1 | refine bS_ ?_ GE161.1) | exact HB.1)) hb)
      clear HO137
      clear HO144
      clear HO152
      clear HO160
      clear BK127
      clear BK128
      clear BK153
      clear BK161
      clear HB
      have HO137 := n0_
      have HO144 := n1_
      have HO152 := n2_
      have HO160 := n3_
      have HO169 := n4_
      have BK127 := n5_
      have BK128 := n6_
      have BK153 := n7_
      have BK161 := n8_
      have HB := n9_
      clear n0_ n1_ n2_ n3_ n4_ n5_ n6_ n7_ n8_ n9_
      (try clear hb)
      (try clear hb2)
      (try clear hk)
      (try clear hi)
      (try clear ho0)
      obtain ⟨Ao132, co132, eo132⟩ := Kd.R_slice HO169.1
      (first | subst eo132 | (injection eo132 with f1_ f2_ f3_; have f4_ := f1_.symm; have f5_ := f3_.symm; clear f1_ f2_ f3_; subst f4_; subst f5_))
      refine hK.out _ _ ⟨kC_ BK153.1 0, kC_ BK153.1 1, kC_ BK153.1 2, kC_ BK153.1 3, kC_ BK153.1 4, kC_ BK127.1 0, kC_ BK127.1 1, kC_ BK127.1 2, kC_ BK127.1 3, kC_ BK127.1 4⟩ (fun hHeld => ?_)
      clear hK K
      refine norm_ (a' := ?_) ?_ ?_
      rotate_left
      ·show Act.put _ (some 37) _ = _
       simp only [Act.put, List.setIfInBounds_toArray, List.set_cons_zero, List.set_cons_succ, i64_w, i32_w]
       rfl
      refine one_ (i := 3) (N := some 38) #[true, true, true, true, false] rfl rfl (by kernel_rfl) (by decide) (fun K hK => ?_)
      refine goes_ Try.func30 (by kernel_rfl) rfl #[.agg #[.int .i64 t146, .int .i64 t147, .int .i64 t148, .int .i64 t149, .slice Ao119 t150.length co119], .agg #[.int .i64 t163, .int .i64 t164, .int .i64 t165, .int .i64 t166, .slice Ao132 t167.length co132]] (by rfl) rfl rfl (by (try simp only [List.map_toArray, List.map_cons, List.map_nil]); first | done | rfl | (simp only [List.length_drop, List.length_take]; rfl)) ?_
      with_reducible refine (laws_eqMeshFrame.calls k t146 t147 t148 t149 _ _ t150 t163 t164 t165 t166 _ _ t167 true _ ?side1 ?side2 ?side3 ?side4 A57.1).mono ?_
      (case side1 => repeat (first | exact (Kd.R_reads' HO152.1).2.2 | (with_reducible refine Kd.C_alloc ?_ _) | (with_reducible refine Kd.C_drewN ?_ _) | (with_reducible refine Kd.C_drew ?_)))
      (case side2 => exact (Kd.R_reads' HO152.1).2.1)
      (case side3 => repeat (first | exact (Kd.R_reads' HO169.1).2.2 | (with_reducible refine Kd.C_alloc ?_ _) | (with_reducible refine Kd.C_drewN ?_ _) | (with_reducible refine Kd.C_drew ?_)))
      (case side4 => exact (Kd.R_reads' HO169.1).2.1)
      rintro e w133 ⟨rfl, hb⟩
      refine ⟨_, rfl, ?_⟩
      have n0_ := Am_ (Kd.R_below (by (with_reducible repeat (first | apply rA_ | apply rN_ | apply rD_)); exact HO137.1) hb)
      have n1_ := Am_ (Kd.R_below (by (with_reducible repeat (first | apply rA_ | apply rN_ | apply rD_)); exact HO144.1) hb)
      have n2_ := Am_ (Kd.R_below (by (with_reducible repeat (first | apply rA_ | apply rN_ | apply rD_)); exact HO152.1) hb)
      have n3_ := Am_ (Kd.R_below (by (with_reducible repeat (first | apply rA_ | apply rN_ | apply rD_)); exact HO160.1) hb)
      have n4_ := Am_ (Kd.R_below (by (with_reducible repeat (first | apply rA_ | apply rN_ | apply rD_)); exact HO169.1) hb)
      have n5_ := Am_ (kB_ (g := gb127) (o := .cells #[.int .i64 a0_0, .int .i64 a0_1, .int .i64 a0_2, .int .i64 a0_3, .slice A0_4 l0_4.length c0_4] 41 (0, 0)) (by (with_reducible repeat (first | refine kN_ ?_ _ | refine kD_ ?_ | refine kA_ ?_ _)); exact BK127.1) hb)
      have n6_ := Am_ (kB_ (g := gb128) (o := .cells #[.int .i64 a1_0, .int .i64 a1_1, .int .i64 a1_2, .int .i64 a1_3, .slice A1_4 l1_4.length c1_4] 41 (0, 0)) (by (with_reducible repeat (first | refine kN_ ?_ _ | refine kD_ ?_ | refine kA_ ?_ _)); exact BK128.1) hb)
      have n7_ := Am_ (kB_ (g := gb153) (o := .cells #[.int .i64 t146, .int .i64 t147, .int .i64 t148, .int .i64 t149, .slice Ao119 t150.length co119] 44 (0, 0)) (by (with_reducible repeat (first | refine kN_ ?_ _ | refine kD_ ?_ | refine kA_ ?_ _)); exact BK153.1) hb)
      have n8_ := Am_ (kB_ (g := gb161) (o := .cells #[.int .i64 t154, .int .i64 t155, .int .i64 t156, .int .i64 t157, .slice Ao127 t158.length co127] 44 (0, 0)) (by (with_reducible repeat (first | refine kN_ ?_ _ | refine kD_ ?_ | refine kA_ ?_ _)); exact BK161.1) hb)
      have n9_ := Am_ (bT_ (by repeat (first | (with_reducible first | exact HB.1 | apply bA_ | apply bN_ | apply bD_ | refine bS_ ?_ GE127.1 | refine bS_ ?_ GE128.1 | refine bS_ ?_ GE153.1 | refine bS_ ?_ GE161.1) | exact HB.1)) hb)
      clear HO137
      clear HO144
      clear HO152
      clear HO160
      clear HO169
      clear BK127
      clear BK128
      clear BK153
      clear BK161
      clear HB
      have HO137 := n0_
      have HO144 := n1_
      have HO152 := n2_
      have HO160 := n3_
      have HO169 := n4_
      have BK127 := n5_
      have BK128 := n6_
      have BK153 := n7_
      have BK161 := n8_
      have HB := n9_
      clear n0_ n1_ n2_ n3_ n4_ n5_ n6_ n7_ n8_ n9_
      (try clear hb)
      (try clear hb2)
      (try clear hk)
      (try clear hi)
      refine hK.out _ _ ⟨kC_ BK153.1 0, kC_ BK153.1 1, kC_ BK153.1 2, kC_ BK153.1 3, kC_ BK153.1 4, kC_ BK127.1 0, kC_ BK127.1 1, kC_ BK127.1 2, kC_ BK127.1 3, kC_ BK127.1 4⟩ (fun hHeld => ?_)
      clear hK K
      refine norm_ (a' := ?_) ?_ ?_
      rotate_left
      ·show Act.put _ (some 38) _ = _
       simp only [Act.put, List.setIfInBounds_toArray, List.set_cons_zero, List.set_cons_succ, i64_w, i32_w]
       rfl
      refine pure_ (i := 4) (N := some 39) (v := ?_) (a' := ?_) #[true, true, true, true, true] rfl rfl (by kernel_rfl) (fun _ _ _ h => h) (Or.inl ⟨by rfl, ?_⟩) ?_ ?_
      rotate_left
      ·intro w'
       go_simp
       with_reducible rfl
      rotate_left
      ·simp only [Act.put, List.setIfInBounds_toArray, List.set_cons_zero, List.set_cons_succ, i64_w, i32_w]
       rfl
      refine done_ (by kernel_rfl) ?_
      try go_wp2
      have n0_ := Am_ (rD_ HO137.1)
      have n1_ := Am_ (rD_ HO144.1)
      have n2_ := Am_ (rD_ HO152.1)
      have n3_ := Am_ (rD_ HO160.1)
      have n4_ := Am_ (rD_ HO169.1)
      have n5_ := Am_ (kD_ BK127.1)
      have n6_ := Am_ (kD_ BK128.1)
      have n7_ := Am_ (kD_ BK153.1)
      have n8_ := Am_ (kD_ BK161.1)
      have n9_ := Am_ (bD_ HB.1)
      clear HO137
      clear HO144
      clear HO152
      clear HO160
      clear HO169
      clear BK127
      clear BK128
      clear BK153
      clear BK161
      clear HB
      have HO137 := n0_
      have HO144 := n1_
      have HO152 := n2_
      have HO160 := n3_
      have HO169 := n4_
      have BK127 := n5_
      have BK128 := n6_
      have BK153 := n7_
      have BK161 := n8_
      have HB := n9_
      clear n0_ n1_ n2_ n3_ n4_ n5_ n6_ n7_ n8_ n9_
      refine start_ (n := 5) (S := fun w' => w'.cell? ⟨gb161, 0, none⟩ = some (.int .i64 t154) ∧ w'.cell? ⟨gb161, 1, none⟩ = some (.int .i64 t155) ∧ w'.cell? ⟨gb161, 2, none⟩ = some (.int .i64 t156) ∧ w'.cell? ⟨gb161, 3, none⟩ = some (.int .i64 t157) ∧ w'.cell? ⟨gb161, 4, none⟩ = some (.slice Ao127 t158.length co127) ∧ w'.cell? ⟨gb128, 0, none⟩ = some (.int .i64 a1_0) ∧ w'.cell? ⟨gb128, 1, none⟩ = some (.int .i64 a1_1) ∧ w'.cell? ⟨gb128, 2, none⟩ = some (.int .i64 a1_2) ∧ w'.cell? ⟨gb128, 3, none⟩ = some (.int .i64 a1_3) ∧ w'.cell? ⟨gb128, 4, none⟩ = some (.slice A1_4 l1_4.length c1_4)) (ds := []) #[false, false, false, false, false] (by kernel_rfl) rfl rfl ⟨kC_ BK161.1 0, kC_ BK161.1 1, kC_ BK161.1 2, kC_ BK161.1 3, kC_ BK161.1 4, kC_ BK128.1 0, kC_ BK128.1 1, kC_ BK128.1 2, kC_ BK128.1 3, kC_ BK128.1 4⟩ (fun hHeld => ?_)
      generalize w133.drew = w134 at HO137 HO144 HO152 HO160 HO169 BK127 BK128 BK153 BK161 HB hHeld ⊢
      refine take_ (i := 0) (N := some 40) (v := ?_) (a' := ?_) #[true, false, false, false, false] rfl rfl (by kernel_rfl) (fun _ _ _ h => h) (Or.inl ⟨by rfl, ?_⟩) hHeld ?_ ?_
      rotate_left
      ·rintro w' ⟨s0, s1, s2, s3, s4, s5, s6, s7, s8, s9⟩
       go_simp
       with_reducible rfl
      rotate_left
      ·simp only [Act.put, List.setIfInBounds_toArray, List.set_cons_zero, List.set_cons_succ, i64_w, i32_w]
       rfl
      refine take_ (i := 1) (N := some 41) (v := ?_) (a' := ?_) #[true, true, false, false, false] rfl rfl (by kernel_rfl) (fun _ _ _ h => h) (Or.inl ⟨by rfl, ?_⟩) hHeld ?_ ?_
      rotate_left
      ·rintro w' ⟨s0, s1, s2, s3, s4, s5, s6, s7, s8, s9⟩
       go_simp
       with_reducible rfl
      rotate_left
      ·simp only [Act.put, List.setIfInBounds_toArray, List.set_cons_zero, List.set_cons_succ, i64_w, i32_w]
       rfl
      refine one_ (i := 2) (N := some 42) #[true, true, true, false, false] rfl rfl (by kernel_rfl) (by decide) (fun K hK => ?_)
      refine goes_ Try.func28 (by kernel_rfl) rfl #[.agg #[.int .i64 a1_0, .int .i64 a1_1, .int .i64 a1_2, .int .i64 a1_3, .slice A1_4 l1_4.length c1_4]] (by rfl) rfl rfl (by (try simp only [List.map_toArray, List.map_cons, List.map_nil]); first | done | rfl | (simp only [List.length_drop, List.length_take]; rfl)) ?_
      with_reducible refine (laws_toMeshFrame.calls k a1_0 a1_1 a1_2 a1_3 _ _ l1_4 t171 t172 t173 t174 t175 _ ?side1 ?side2 A59.1).mono ?_
      (case side1 => repeat (first | exact (Kd.C_below HR1_4.1 HB.1) | (with_reducible refine Kd.C_alloc ?_ _) | (with_reducible refine Kd.C_drewN ?_ _) | (with_reducible refine Kd.C_drew ?_)))
      (case side2 => exact HC1_4.1)
      rintro e w135 ⟨v176, rfl, ho0, hb⟩
      refine ⟨_, rfl, ?_⟩
      have n0_ := Am_ (Kd.R_elder' (by (with_reducible repeat (first | apply rA_ | apply rN_ | apply rD_)); exact HO137.1) (Kd.R_base ho0) hb)
      have n1_ := Am_ (Kd.R_elder' (by (with_reducible repeat (first | apply rA_ | apply rN_ | apply rD_)); exact HO144.1) (Kd.R_base ho0) hb)
      have n2_ := Am_ (Kd.R_elder' (by (with_reducible repeat (first | apply rA_ | apply rN_ | apply rD_)); exact HO152.1) (Kd.R_base ho0) hb)
      have n3_ := Am_ (Kd.R_elder' (by (with_reducible repeat (first | apply rA_ | apply rN_ | apply rD_)); exact HO160.1) (Kd.R_base ho0) hb)
      have n4_ := Am_ (Kd.R_elder' (by (with_reducible repeat (first | apply rA_ | apply rN_ | apply rD_)); exact HO169.1) (Kd.R_base ho0) hb)
      have n5_ := Am_ (Kd.R_lower (Kd.R_new' (Kd.R_new' (Kd.R_new' (Kd.R_new' (Kd.R_new' ho0 (Kd.R_lt (by (with_reducible repeat (first | apply rA_ | apply rN_ | apply rD_)); exact HO137.1))) (Kd.R_lt (by (with_reducible repeat (first | apply rA_ | apply rN_ | apply rD_)); exact HO144.1))) (Kd.R_lt (by (with_reducible repeat (first | apply rA_ | apply rN_ | apply rD_)); exact HO152.1))) (Kd.R_lt (by (with_reducible repeat (first | apply rA_ | apply rN_ | apply rD_)); exact HO160.1))) (Kd.R_lt (by (with_reducible repeat (first | apply rA_ | apply rN_ | apply rD_)); exact HO169.1))) (bZ_ (by repeat (first | (with_reducible first | exact HB.1 | apply bA_ | apply bN_ | apply bD_ | refine bS_ ?_ GE127.1 | refine bS_ ?_ GE128.1 | refine bS_ ?_ GE153.1 | refine bS_ ?_ GE161.1) | exact HB.1))))
      have n6_ := Am_ (kB_ (g := gb127) (o := .cells #[.int .i64 a0_0, .int .i64 a0_1, .int .i64 a0_2, .int .i64 a0_3, .slice A0_4 l0_4.length c0_4] 41 (0, 0)) (by (with_reducible repeat (first | refine kN_ ?_ _ | refine kD_ ?_ | refine kA_ ?_ _)); exact BK127.1) hb)
      have n7_ := Am_ (kB_ (g := gb128) (o := .cells #[.int .i64 a1_0, .int .i64 a1_1, .int .i64 a1_2, .int .i64 a1_3, .slice A1_4 l1_4.length c1_4] 41 (0, 0)) (by (with_reducible repeat (first | refine kN_ ?_ _ | refine kD_ ?_ | refine kA_ ?_ _)); exact BK128.1) hb)
      have n8_ := Am_ (kB_ (g := gb153) (o := .cells #[.int .i64 t146, .int .i64 t147, .int .i64 t148, .int .i64 t149, .slice Ao119 t150.length co119] 44 (0, 0)) (by (with_reducible repeat (first | refine kN_ ?_ _ | refine kD_ ?_ | refine kA_ ?_ _)); exact BK153.1) hb)
      have n9_ := Am_ (kB_ (g := gb161) (o := .cells #[.int .i64 t154, .int .i64 t155, .int .i64 t156, .int .i64 t157, .slice Ao127 t158.length co127] 44 (0, 0)) (by (with_reducible repeat (first | refine kN_ ?_ _ | refine kD_ ?_ | refine kA_ ?_ _)); exact BK161.1) hb)
      have n10_ := Am_ (bT_ (by repeat (first | (with_reducible first | exact HB.1 | apply bA_ | apply bN_ | apply bD_ | refine bS_ ?_ GE127.1 | refine bS_ ?_ GE128.1 | refine bS_ ?_ GE153.1 | refine bS_ ?_ GE161.1) | exact HB.1)) hb)
      clear HO137
      clear HO144
      clear HO152
      clear HO160
      clear HO169
      clear BK127
      clear BK128
      clear BK153
      clear BK161
      clear HB
      have HO137 := n0_
      have HO144 := n1_
      have HO152 := n2_
      have HO160 := n3_
      have HO169 := n4_
      have HO177 := n5_
      have BK127 := n6_
      have BK128 := n7_
      have BK153 := n8_
      have BK161 := n9_
      have HB := n10_
      clear n0_ n1_ n2_ n3_ n4_ n5_ n6_ n7_ n8_ n9_ n10_
      (try clear hb)
      (try clear hb2)
      (try clear hk)
      (try clear hi)
      (try clear ho0)
      obtain ⟨Ao136, co136, eo136⟩ := Kd.R_slice HO177.1
      (first | subst eo136 | (injection eo136 with f1_ f2_ f3_; have f4_ := f1_.symm; have f5_ := f3_.symm; clear f1_ f2_ f3_; subst f4_; subst f5_))
      refine hK.out _ _ ⟨kC_ BK161.1 0, kC_ BK161.1 1, kC_ BK161.1 2, kC_ BK161.1 3, kC_ BK161.1 4, kC_ BK128.1 0, kC_ BK128.1 1, kC_ BK128.1 2, kC_ BK128.1 3, kC_ BK128.1 4⟩ (fun hHeld => ?_)
      clear hK K
      refine norm_ (a' := ?_) ?_ ?_
      rotate_left
      ·show Act.put _ (some 42) _ = _
       simp only [Act.put, List.setIfInBounds_toArray, List.set_cons_zero, List.set_cons_succ, i64_w, i32_w]
       rfl
      refine one_ (i := 3) (N := some 43) #[true, true, true, true, false] rfl rfl (by kernel_rfl) (by decide) (fun K hK => ?_)
      refine goes_ Try.func30 (by kernel_rfl) rfl #[.agg #[.int .i64 t154, .int .i64 t155, .int .i64 t156, .int .i64 t157, .slice Ao127 t158.length co127], .agg #[.int .i64 t171, .int .i64 t172, .int .i64 t173, .int .i64 t174, .slice Ao136 t175.length co136]] (by rfl) rfl rfl (by (try simp only [List.map_toArray, List.map_cons, List.map_nil]); first | done | rfl | (simp only [List.length_drop, List.length_take]; rfl)) ?_
      with_reducible refine (laws_eqMeshFrame.calls k t154 t155 t156 t157 _ _ t158 t171 t172 t173 t174 _ _ t175 false _ ?side1 ?side2 ?side3 ?side4 A60.1).mono ?_
      (case side1 => repeat (first | exact (Kd.R_reads' HO160.1).2.2 | (with_reducible refine Kd.C_alloc ?_ _) | (with_reducible refine Kd.C_drewN ?_ _) | (with_reducible refine Kd.C_drew ?_)))
      (case side2 => exact (Kd.R_reads' HO160.1).2.1)
      (case side3 => repeat (first | exact (Kd.R_reads' HO177.1).2.2 | (with_reducible refine Kd.C_alloc ?_ _) | (with_reducible refine Kd.C_drewN ?_ _) | (with_reducible refine Kd.C_drew ?_)))
      (case side4 => exact (Kd.R_reads' HO177.1).2.1)
      rintro e w137 ⟨rfl, hb⟩
      refine ⟨_, rfl, ?_⟩
      have n0_ := Am_ (Kd.R_below (by (with_reducible repeat (first | apply rA_ | apply rN_ | apply rD_)); exact HO137.1) hb)
      have n1_ := Am_ (Kd.R_below (by (with_reducible repeat (first | apply rA_ | apply rN_ | apply rD_)); exact HO144.1) hb)
      have n2_ := Am_ (Kd.R_below (by (with_reducible repeat (first | apply rA_ | apply rN_ | apply rD_)); exact HO152.1) hb)
      have n3_ := Am_ (Kd.R_below (by (with_reducible repeat (first | apply rA_ | apply rN_ | apply rD_)); exact HO160.1) hb)
      have n4_ := Am_ (Kd.R_below (by (with_reducible repeat (first | apply rA_ | apply rN_ | apply rD_)); exact HO169.1) hb)
      have n5_ := Am_ (Kd.R_below (by (with_reducible repeat (first | apply rA_ | apply rN_ | apply rD_)); exact HO177.1) hb)
      have n6_ := Am_ (kB_ (g := gb127) (o := .cells #[.int .i64 a0_0, .int .i64 a0_1, .int .i64 a0_2, .int .i64 a0_3, .slice A0_4 l0_4.length c0_4] 41 (0, 0)) (by (with_reducible repeat (first | refine kN_ ?_ _ | refine kD_ ?_ | refine kA_ ?_ _)); exact BK127.1) hb)
      have n7_ := Am_ (kB_ (g := gb128) (o := .cells #[.int .i64 a1_0, .int .i64 a1_1, .int .i64 a1_2, .int .i64 a1_3, .slice A1_4 l1_4.length c1_4] 41 (0, 0)) (by (with_reducible repeat (first | refine kN_ ?_ _ | refine kD_ ?_ | refine kA_ ?_ _)); exact BK128.1) hb)
      have n8_ := Am_ (kB_ (g := gb153) (o := .cells #[.int .i64 t146, .int .i64 t147, .int .i64 t148, .int .i64 t149, .slice Ao119 t150.length co119] 44 (0, 0)) (by (with_reducible repeat (first | refine kN_ ?_ _ | refine kD_ ?_ | refine kA_ ?_ _)); exact BK153.1) hb)
      have n9_ := Am_ (kB_ (g := gb161) (o := .cells #[.int .i64 t154, .int .i64 t155, .int .i64 t156, .int .i64 t157, .slice Ao127 t158.length co127] 44 (0, 0)) (by (with_reducible repeat (first | refine kN_ ?_ _ | refine kD_ ?_ | refine kA_ ?_ _)); exact BK161.1) hb)
      have n10_ := Am_ (bT_ (by repeat (first | (with_reducible first | exact HB.1 | apply bA_ | apply bN_ | apply bD_ | refine bS_ ?_ GE127.1 | refine bS_ ?_ GE128.1 | refine bS_ ?_ GE153.1 | refine bS_ ?_ GE161.1) | exact HB.1)) hb)
      clear HO137
      clear HO144
      clear HO152
      clear HO160
      clear HO169
      clear HO177
      clear BK127
      clear BK128
      clear BK153
      clear BK161
      clear HB
      have HO137 := n0_
      have HO144 := n1_
      have HO152 := n2_
      have HO160 := n3_
      have HO169 := n4_
      have HO177 := n5_
      have BK127 := n6_
      have BK128 := n7_
      have BK153 := n8_
      have BK161 := n9_
      have HB := n10_
      clear n0_ n1_ n2_ n3_ n4_ n5_ n6_ n7_ n8_ n9_ n10_
      (try clear hb)
      (try clear hb2)
      (try clear hk)
      (try clear hi)
      refine hK.out _ _ ⟨kC_ BK161.1 0, kC_ BK161.1 1, kC_ BK161.1 2, kC_ BK161.1 3, kC_ BK161.1 4, kC_ BK128.1 0, kC_ BK128.1 1, kC_ BK128.1 2, kC_ BK128.1 3, kC_ BK128.1 4⟩ (fun hHeld => ?_)
      clear hK K
      refine norm_ (a' := ?_) ?_ ?_
      rotate_left
      ·show Act.put _ (some 43) _ = _
       simp only [Act.put, List.setIfInBounds_toArray, List.set_cons_zero, List.set_cons_succ, i64_w, i32_w]
       rfl
      refine pure_ (i := 4) (N := some 44) (v := ?_) (a' := ?_) #[true, true, true, true, true] rfl rfl (by kernel_rfl) (fun _ _ _ h => h) (Or.inl ⟨by rfl, ?_⟩) ?_ ?_
      rotate_left
      ·intro w'
       go_simp
       with_reducible rfl
      rotate_left
      ·simp only [Act.put, List.setIfInBounds_toArray, List.set_cons_zero, List.set_cons_succ, i64_w, i32_w]
       rfl
      refine done_ (by kernel_rfl) ?_
      try go_wp2
      go_ret
      exact ⟨by first | rfl | (simp [errW_none, errW_some] <;> rfl) | (simp [*, errW_none, errW_some] <;> rfl), by repeat (first | (with_reducible first | exact HB.1 | apply bA_ | apply bN_ | apply bD_ | refine bS_ ?_ GE127.1 | refine bS_ ?_ GE128.1 | refine bS_ ?_ GE153.1 | refine bS_ ?_ GE161.1) | exact HB.1)⟩
    ·replace c58 := Bool.eq_false_iff.mpr c58
     subst c58
     have H1 : (some false) = some r := by rw [if_neg (show ¬ (false = true) by decide)] at H; exact H
     clear H
     have H := H1
     clear H1
     obtain rfl := Option.some.inj H
     go_enter Try.func6, Try.ntmps6
     try go_wp2_with (first | ((with_reducible refine gate_dst (N := 2) rfl ?_); refine box_event ?hg (N := 2) ?hd (cs := #[.int .i64 a0_0, .int .i64 a0_1, .int .i64 a0_2, .int .i64 a0_3, .slice A0_4 l0_4.length c0_4]) (t := 41) ?hr ?_; (case hd => rfl); (case hg => rfl); (case hr => first | (go_simp; done) | (go_simp; rfl)); intro gb127 hg w138 hbox hb; have n0_ := Am_ (bT_ (by repeat (first | (with_reducible first | exact HB.1 | apply bA_ | apply bN_ | apply bD_) | exact HB.1)) hb); have n1_ := Am_ (hbox); have n2_ := Am_ ((by rw [hg]; exact (bZ_ (by repeat (first | (with_reducible first | exact HB.1 | apply bA_ | apply bN_ | apply bD_) | exact HB.1))) : w.heap.size ≤ gb127)); have n3_ := Am_ ((by rw [hg]; exact (bZ_ (by repeat (first | (with_reducible first | exact HB.1 | apply bA_ | apply bN_ | apply bD_) | exact HB.1))) : w.heap.size ≤ gb127)); clear HB; have HB := n0_; have BK127 := n1_; have GW127 := n2_; have GE127 := n3_; clear n0_ n1_ n2_ n3_ hb hbox hg) | ((with_reducible refine gate_dst (N := 3) rfl ?_); refine box_event ?hg (N := 3) ?hd (cs := #[.int .i64 a1_0, .int .i64 a1_1, .int .i64 a1_2, .int .i64 a1_3, .slice A1_4 l1_4.length c1_4]) (t := 41) ?hr ?_; (case hd => rfl); (case hg => rfl); (case hr => first | (go_simp; done) | (go_simp; rfl)); intro gb128 hg w139 hbox hb; have n0_ := Am_ (kB_ (g := gb127) (o := .cells #[.int .i64 a0_0, .int .i64 a0_1, .int .i64 a0_2, .int .i64 a0_3, .slice A0_4 l0_4.length c0_4] 41 (0, 0)) (by (with_reducible repeat (first | refine kN_ ?_ _ | refine kD_ ?_ | refine kA_ ?_ _)); exact BK127.1) hb); have n1_ := Am_ (bT_ (by repeat (first | (with_reducible first | exact HB.1 | apply bA_ | apply bN_ | apply bD_ | refine bS_ ?_ GE127.1) | exact HB.1)) hb); have n2_ := Am_ (hbox); have n3_ := Am_ ((by rw [hg]; exact (bZ_ (by repeat (first | (with_reducible first | exact HB.1 | apply bA_ | apply bN_ | apply bD_ | refine bS_ ?_ GE127.1) | exact HB.1))) : w.heap.size ≤ gb128)); have n4_ := Am_ ((by rw [hg]; exact (bZ_ (by repeat (first | (with_reducible first | exact HB.1 | apply bA_ | apply bN_ | apply bD_ | refine bS_ ?_ GE127.1) | exact HB.1))) : w.heap.size ≤ gb128)); have n5_ := Am_ ((by rw [hg]; exact Nat.ne_of_lt (blk_lt (g := gb127) (o := .cells #[.int .i64 a0_0, .int .i64 a0_1, .int .i64 a0_2, .int .i64 a0_3, .slice A0_4 l0_4.length c0_4] 41 (0, 0)) (by (with_reducible repeat (first | refine kN_ ?_ _ | refine kD_ ?_ | refine kA_ ?_ _)); exact BK127.1)) : gb127 ≠ gb128)); have n6_ := Am_ ((by rw [hg]; exact Nat.ne_of_gt (blk_lt (g := gb127) (o := .cells #[.int .i64 a0_0, .int .i64 a0_1, .int .i64 a0_2, .int .i64 a0_3, .slice A0_4 l0_4.length c0_4] 41 (0, 0)) (by (with_reducible repeat (first | refine kN_ ?_ _ | refine kD_ ?_ | refine kA_ ?_ _)); exact BK127.1)) : gb128 ≠ gb127)); clear BK127 HB; have BK127 := n0_; have HB := n1_; have BK128 := n2_; have GW128 := n3_; have GE128 := n4_; have NB127_128 := n5_; have NB128_127 := n6_; clear n0_ n1_ n2_ n3_ n4_ n5_ n6_ hb hbox hg; have hnb140 := NB127_128.1; have hnc140 := NB128_127.1; have hcz141_0 : w139.cell? ⟨gb127, 0, none⟩ = some (.int .i64 a0_0) := kC_ BK127.1 0; have hcz141_1 : w139.cell? ⟨gb127, 1, none⟩ = some (.int .i64 a0_1) := kC_ BK127.1 1; have hcz141_2 : w139.cell? ⟨gb127, 2, none⟩ = some (.int .i64 a0_2) := kC_ BK127.1 2; have hcz141_3 : w139.cell? ⟨gb127, 3, none⟩ = some (.int .i64 a0_3) := kC_ BK127.1 3; have hcz141_4 : w139.cell? ⟨gb127, 4, none⟩ = some (.slice A0_4 l0_4.length c0_4) := kC_ BK127.1 4; have hfz141_0 := kF_ BK127.1 0; have hfz141_1 := kF_ BK127.1 1; have hfz141_2 := kF_ BK127.1 2; have hfz141_3 := kF_ BK127.1 3; have hfz141_4 := kF_ BK127.1 4) | ((with_reducible refine gate_callee (f := 26) rfl ?_); refine goesL_ (some 12) rfl rfl Try.func26 (by kernel_rfl) rfl #[.agg #[.int .i64 a0_0, .int .i64 a0_1, .int .i64 a0_2, .int .i64 a0_3, .slice A0_4 l0_4.length c0_4], .int .i64 1048576] rfl (by (try simp only [List.map_toArray, List.map_cons, List.map_nil]); first | done | rfl | (simp only [List.length_drop, List.length_take]; rfl)) ?_; (with_reducible refine (laws_szMeshFrame.calls a0_0 a0_1 a0_2 a0_3 _ _ l0_4 1048576 t129 _ ?side1 ?side2 A3.1).mono ?_); (case side1 => repeat (first | exact (Kd.C_below HR0_4.1 HB.1) | (with_reducible refine Kd.C_alloc ?_ _) | (with_reducible refine Kd.C_drewN ?_ _) | (with_reducible refine Kd.C_drew ?_))); (case side2 => exact HC0_4.1); rintro e w142 ⟨rfl, hb⟩; refine ⟨_, rfl, ?_⟩; have n0_ := Am_ (kB_ (g := gb127) (o := .cells #[.int .i64 a0_0, .int .i64 a0_1, .int .i64 a0_2, .int .i64 a0_3, .slice A0_4 l0_4.length c0_4] 41 (0, 0)) (by (with_reducible repeat (first | refine kN_ ?_ _ | refine kD_ ?_ | refine kA_ ?_ _)); exact BK127.1) hb); have n1_ := Am_ (kB_ (g := gb128) (o := .cells #[.int .i64 a1_0, .int .i64 a1_1, .int .i64 a1_2, .int .i64 a1_3, .slice A1_4 l1_4.length c1_4] 41 (0, 0)) (by (with_reducible repeat (first | refine kN_ ?_ _ | refine kD_ ?_ | refine kA_ ?_ _)); exact BK128.1) hb); have n2_ := Am_ (bT_ (by repeat (first | (with_reducible first | exact HB.1 | apply bA_ | apply bN_ | apply bD_ | refine bS_ ?_ GE127.1 | refine bS_ ?_ GE128.1) | exact HB.1)) hb); clear BK127 BK128 HB; have BK127 := n0_; have BK128 := n1_; have HB := n2_; clear n0_ n1_ n2_; (try clear hb); (try clear hb2); (try clear hk); (try clear hi); have hcz143_0 : w142.cell? ⟨gb128, 0, none⟩ = some (.int .i64 a1_0) := kC_ BK128.1 0; have hcz143_1 : w142.cell? ⟨gb128, 1, none⟩ = some (.int .i64 a1_1) := kC_ BK128.1 1; have hcz143_2 : w142.cell? ⟨gb128, 2, none⟩ = some (.int .i64 a1_2) := kC_ BK128.1 2; have hcz143_3 : w142.cell? ⟨gb128, 3, none⟩ = some (.int .i64 a1_3) := kC_ BK128.1 3; have hcz143_4 : w142.cell? ⟨gb128, 4, none⟩ = some (.slice A1_4 l1_4.length c1_4) := kC_ BK128.1 4; have hfz143_0 := kF_ BK128.1 0; have hfz143_1 := kF_ BK128.1 1; have hfz143_2 := kF_ BK128.1 2; have hfz143_3 := kF_ BK128.1 3; have hfz143_4 := kF_ BK128.1 4) | ((with_reducible refine gate_callee (f := 26) rfl ?_); refine goesL_ (some 17) rfl rfl Try.func26 (by kernel_rfl) rfl #[.agg #[.int .i64 a1_0, .int .i64 a1_1, .int .i64 a1_2, .int .i64 a1_3, .slice A1_4 l1_4.length c1_4], .int .i64 t129] rfl (by (try simp only [List.map_toArray, List.map_cons, List.map_nil]); first | done | rfl | (simp only [List.length_drop, List.length_take]; rfl)) ?_; (with_reducible refine (laws_szMeshFrame.calls a1_0 a1_1 a1_2 a1_3 _ _ l1_4 t129 t130 _ ?side1 ?side2 A10.1).mono ?_); (case side1 => repeat (first | exact (Kd.C_below HR1_4.1 HB.1) | (with_reducible refine Kd.C_alloc ?_ _) | (with_reducible refine Kd.C_drewN ?_ _) | (with_reducible refine Kd.C_drew ?_))); (case side2 => exact HC1_4.1); rintro e w144 ⟨rfl, hb⟩; refine ⟨_, rfl, ?_⟩; have n0_ := Am_ (kB_ (g := gb127) (o := .cells #[.int .i64 a0_0, .int .i64 a0_1, .int .i64 a0_2, .int .i64 a0_3, .slice A0_4 l0_4.length c0_4] 41 (0, 0)) (by (with_reducible repeat (first | refine kN_ ?_ _ | refine kD_ ?_ | refine kA_ ?_ _)); exact BK127.1) hb); have n1_ := Am_ (kB_ (g := gb128) (o := .cells #[.int .i64 a1_0, .int .i64 a1_1, .int .i64 a1_2, .int .i64 a1_3, .slice A1_4 l1_4.length c1_4] 41 (0, 0)) (by (with_reducible repeat (first | refine kN_ ?_ _ | refine kD_ ?_ | refine kA_ ?_ _)); exact BK128.1) hb); have n2_ := Am_ (bT_ (by repeat (first | (with_reducible first | exact HB.1 | apply bA_ | apply bN_ | apply bD_ | refine bS_ ?_ GE127.1 | refine bS_ ?_ GE128.1) | exact HB.1)) hb); clear BK127 BK128 HB; have BK127 := n0_; have BK128 := n1_; have HB := n2_; clear n0_ n1_ n2_; (try clear hb); (try clear hb2); (try clear hk); (try clear hi)))
     have n0_ := Am_ (kD_ BK127.1)
     have n1_ := Am_ (kD_ BK128.1)
     have n2_ := Am_ (bD_ HB.1)
     clear BK127
     clear BK128
     clear HB
     have BK127 := n0_
     have BK128 := n1_
     have HB := n2_
     clear n0_ n1_ n2_
     refine start_ (n := 6) (S := fun w' => w'.cell? ⟨gb127, 0, none⟩ = some (.int .i64 a0_0) ∧ w'.cell? ⟨gb127, 1, none⟩ = some (.int .i64 a0_1) ∧ w'.cell? ⟨gb127, 2, none⟩ = some (.int .i64 a0_2) ∧ w'.cell? ⟨gb127, 3, none⟩ = some (.int .i64 a0_3) ∧ w'.cell? ⟨gb127, 4, none⟩ = some (.slice A0_4 l0_4.length c0_4) ∧ w'.cell? ⟨gb128, 0, none⟩ = some (.int .i64 a1_0) ∧ w'.cell? ⟨gb128, 1, none⟩ = some (.int .i64 a1_1) ∧ w'.cell? ⟨gb128, 2, none⟩ = some (.int .i64 a1_2) ∧ w'.cell? ⟨gb128, 3, none⟩ = some (.int .i64 a1_3) ∧ w'.cell? ⟨gb128, 4, none⟩ = some (.slice A1_4 l1_4.length c1_4)) (ds := []) #[false, false, false, false, false, false] (by kernel_rfl) rfl rfl ⟨kC_ BK127.1 0, kC_ BK127.1 1, kC_ BK127.1 2, kC_ BK127.1 3, kC_ BK127.1 4, kC_ BK128.1 0, kC_ BK128.1 1, kC_ BK128.1 2, kC_ BK128.1 3, kC_ BK128.1 4⟩ (fun hHeld => ?_)
     generalize w144.drew = w145 at BK127 BK128 HB hHeld ⊢
     refine take_ (i := 0) (N := some 20) (v := ?_) (a' := ?_) #[true, false, false, false, false, false] rfl rfl (by kernel_rfl) (fun _ _ _ h => h) (Or.inl ⟨by rfl, ?_⟩) hHeld ?_ ?_
     rotate_left
     ·rintro w' ⟨s0, s1, s2, s3, s4, s5, s6, s7, s8, s9⟩
      go_simp
      with_reducible rfl
     rotate_left
     ·simp only [Act.put, List.setIfInBounds_toArray, List.set_cons_zero, List.set_cons_succ, i64_w, i32_w]
      rfl
     refine take_ (i := 2) (N := some 22) (v := ?_) (a' := ?_) #[true, false, true, false, false, false] rfl rfl (by kernel_rfl) (fun _ _ _ h => h) (Or.inl ⟨by rfl, ?_⟩) hHeld ?_ ?_
     rotate_left
     ·rintro w' ⟨s0, s1, s2, s3, s4, s5, s6, s7, s8, s9⟩
      go_simp
      with_reducible rfl
     rotate_left
     ·simp only [Act.put, List.setIfInBounds_toArray, List.set_cons_zero, List.set_cons_succ, i64_w, i32_w]
      rfl
     refine one_ (i := 1) (N := some 21) #[true, true, true, false, false, false] rfl rfl (by kernel_rfl) (by decide) (fun K hK => ?_)
     refine goes_ Try.func28 (by kernel_rfl) rfl #[.agg #[.int .i64 a0_0, .int .i64 a0_1, .int .i64 a0_2, .int .i64 a0_3, .slice A0_4 l0_4.length c0_4]] (by rfl) rfl rfl (by (try simp only [List.map_toArray, List.map_cons, List.map_nil]); first | done | rfl | (simp only [List.length_drop, List.length_take]; rfl)) ?_
     with_reducible refine (laws_toMeshFrame.calls k a0_0 a0_1 a0_2 a0_3 _ _ l0_4 t131 t132 t133 t134 t135 _ ?side1 ?side2 A19.1).mono ?_
     (case side1 => repeat (first | exact (Kd.C_below HR0_4.1 HB.1) | (with_reducible refine Kd.C_alloc ?_ _) | (with_reducible refine Kd.C_drewN ?_ _) | (with_reducible refine Kd.C_drew ?_)))
     (case side2 => exact HC0_4.1)
     rintro e w146 ⟨v136, rfl, ho0, hb⟩
     refine ⟨_, rfl, ?_⟩
     have n0_ := Am_ (Kd.R_lower ho0 (bZ_ (by repeat (first | (with_reducible first | exact HB.1 | apply bA_ | apply bN_ | apply bD_ | refine bS_ ?_ GE127.1 | refine bS_ ?_ GE128.1) | exact HB.1))))
     have n1_ := Am_ (kB_ (g := gb127) (o := .cells #[.int .i64 a0_0, .int .i64 a0_1, .int .i64 a0_2, .int .i64 a0_3, .slice A0_4 l0_4.length c0_4] 41 (0, 0)) (by (with_reducible repeat (first | refine kN_ ?_ _ | refine kD_ ?_ | refine kA_ ?_ _)); exact BK127.1) hb)
     have n2_ := Am_ (kB_ (g := gb128) (o := .cells #[.int .i64 a1_0, .int .i64 a1_1, .int .i64 a1_2, .int .i64 a1_3, .slice A1_4 l1_4.length c1_4] 41 (0, 0)) (by (with_reducible repeat (first | refine kN_ ?_ _ | refine kD_ ?_ | refine kA_ ?_ _)); exact BK128.1) hb)
     have n3_ := Am_ (bT_ (by repeat (first | (with_reducible first | exact HB.1 | apply bA_ | apply bN_ | apply bD_ | refine bS_ ?_ GE127.1 | refine bS_ ?_ GE128.1) | exact HB.1)) hb)
     clear BK127
     clear BK128
     clear HB
     have HO137 := n0_
     have BK127 := n1_
     have BK128 := n2_
     have HB := n3_
     clear n0_ n1_ n2_ n3_
     (try clear hb)
     (try clear hb2)
     (try clear hk)
     (try clear hi)
     (try clear ho0)
     refine hK.out _ _ ⟨kC_ BK127.1 0, kC_ BK127.1 1, kC_ BK127.1 2, kC_ BK127.1 3, kC_ BK127.1 4, kC_ BK128.1 0, kC_ BK128.1 1, kC_ BK128.1 2, kC_ BK128.1 3, kC_ BK128.1 4⟩ (fun hHeld => ?_)
     clear hK K
     refine norm_ (a' := ?_) ?_ ?_
     rotate_left
     ·show Act.put _ (some 21) _ = _
      simp only [Act.put, List.setIfInBounds_toArray, List.set_cons_zero, List.set_cons_succ, i64_w, i32_w]
      rfl
     refine one_ (i := 3) (N := some 23) #[true, true, true, true, false, false] rfl rfl (by kernel_rfl) (by decide) (fun K hK => ?_)
     refine goes_ Try.func28 (by kernel_rfl) rfl #[.agg #[.int .i64 a1_0, .int .i64 a1_1, .int .i64 a1_2, .int .i64 a1_3, .slice A1_4 l1_4.length c1_4]] (by rfl) rfl rfl (by (try simp only [List.map_toArray, List.map_cons, List.map_nil]); first | done | rfl | (simp only [List.length_drop, List.length_take]; rfl)) ?_
     with_reducible refine (laws_toMeshFrame.calls k a1_0 a1_1 a1_2 a1_3 _ _ l1_4 t138 t139 t140 t141 t142 _ ?side1 ?side2 A20.1).mono ?_
     (case side1 => repeat (first | exact (Kd.C_below HR1_4.1 HB.1) | (with_reducible refine Kd.C_alloc ?_ _) | (with_reducible refine Kd.C_drewN ?_ _) | (with_reducible refine Kd.C_drew ?_)))
     (case side2 => exact HC1_4.1)
     rintro e w147 ⟨v143, rfl, ho0, hb⟩
     refine ⟨_, rfl, ?_⟩
     have n0_ := Am_ (Kd.R_elder' (by (with_reducible repeat (first | apply rA_ | apply rN_ | apply rD_)); exact HO137.1) (Kd.R_base ho0) hb)
     have n1_ := Am_ (Kd.R_lower (Kd.R_new' ho0 (Kd.R_lt (by (with_reducible repeat (first | apply rA_ | apply rN_ | apply rD_)); exact HO137.1))) (bZ_ (by repeat (first | (with_reducible first | exact HB.1 | apply bA_ | apply bN_ | apply bD_ | refine bS_ ?_ GE127.1 | refine bS_ ?_ GE128.1) | exact HB.1))))
     have n2_ := Am_ (kB_ (g := gb127) (o := .cells #[.int .i64 a0_0, .int .i64 a0_1, .int .i64 a0_2, .int .i64 a0_3, .slice A0_4 l0_4.length c0_4] 41 (0, 0)) (by (with_reducible repeat (first | refine kN_ ?_ _ | refine kD_ ?_ | refine kA_ ?_ _)); exact BK127.1) hb)
     have n3_ := Am_ (kB_ (g := gb128) (o := .cells #[.int .i64 a1_0, .int .i64 a1_1, .int .i64 a1_2, .int .i64 a1_3, .slice A1_4 l1_4.length c1_4] 41 (0, 0)) (by (with_reducible repeat (first | refine kN_ ?_ _ | refine kD_ ?_ | refine kA_ ?_ _)); exact BK128.1) hb)
     have n4_ := Am_ (bT_ (by repeat (first | (with_reducible first | exact HB.1 | apply bA_ | apply bN_ | apply bD_ | refine bS_ ?_ GE127.1 | refine bS_ ?_ GE128.1) | exact HB.1)) hb)
     clear HO137
     clear BK127
     clear BK128
     clear HB
     have HO137 := n0_
     have HO144 := n1_
     have BK127 := n2_
     have BK128 := n3_
     have HB := n4_
     clear n0_ n1_ n2_ n3_ n4_
     (try clear hb)
     (try clear hb2)
     (try clear hk)
     (try clear hi)
     (try clear ho0)
     obtain ⟨Ao148, co148, eo148⟩ := Kd.R_slice HO137.1
     (first | subst eo148 | (injection eo148 with f1_ f2_ f3_; have f4_ := f1_.symm; have f5_ := f3_.symm; clear f1_ f2_ f3_; subst f4_; subst f5_))
     obtain ⟨Ao149, co149, eo149⟩ := Kd.R_slice HO144.1
     (first | subst eo149 | (injection eo149 with f1_ f2_ f3_; have f4_ := f1_.symm; have f5_ := f3_.symm; clear f1_ f2_ f3_; subst f4_; subst f5_))
     refine hK.out _ _ ⟨kC_ BK127.1 0, kC_ BK127.1 1, kC_ BK127.1 2, kC_ BK127.1 3, kC_ BK127.1 4, kC_ BK128.1 0, kC_ BK128.1 1, kC_ BK128.1 2, kC_ BK128.1 3, kC_ BK128.1 4⟩ (fun hHeld => ?_)
     clear hK K
     refine norm_ (a' := ?_) ?_ ?_
     rotate_left
     ·show Act.put _ (some 23) _ = _
      simp only [Act.put, List.setIfInBounds_toArray, List.set_cons_zero, List.set_cons_succ, i64_w, i32_w]
      rfl
     refine one_ (i := 4) (N := some 24) #[true, true, true, true, true, false] rfl rfl (by kernel_rfl) (by decide) (fun K hK => ?_)
     refine goes_ Try.func27 (by kernel_rfl) rfl #[.agg #[.int .i64 t131, .int .i64 t132, .int .i64 t133, .int .i64 t134, .slice Ao148 t135.length co148], .agg #[.int .i64 t138, .int .i64 t139, .int .i64 t140, .int .i64 t141, .slice Ao149 t142.length co149]] (by rfl) rfl rfl (by (try simp only [List.map_toArray, List.map_cons, List.map_nil]); first | done | rfl | (simp only [List.length_drop, List.length_take]; rfl)) ?_
     with_reducible refine (spec_EqualMeshFrames.calls t131 t132 t133 t134 _ _ t135 t138 t139 t140 t141 _ _ t142 t145 _ ?side1 ?side2 ?side3 ?side4 A21.1).mono ?_
     (case side1 => repeat (first | exact (Kd.R_reads' HO137.1).2.2 | (with_reducible refine Kd.C_alloc ?_ _) | (with_reducible refine Kd.C_drewN ?_ _) | (with_reducible refine Kd.C_drew ?_)))
     (case side2 => exact (Kd.R_reads' HO137.1).2.1)
     (case side3 => repeat (first | exact (Kd.R_reads' HO144.1).2.2 | (with_reducible refine Kd.C_alloc ?_ _) | (with_reducible refine Kd.C_drewN ?_ _) | (with_reducible refine Kd.C_drew ?_)))
     (case side4 => exact (Kd.R_reads' HO144.1).2.1)
     rintro e w150 ⟨rfl, hb⟩
     refine ⟨_, rfl, ?_⟩
     have n0_ := Am_ (Kd.R_below (by (with_reducible repeat (first | apply rA_ | apply rN_ | apply rD_)); exact HO137.1) hb)
     have n1_ := Am_ (Kd.R_below (by (with_reducible repeat (first | apply rA_ | apply rN_ | apply rD_)); exact HO144.1) hb)
     have n2_ := Am_ (kB_ (g := gb127) (o := .cells #[.int .i64 a0_0, .int .i64 a0_1, .int .i64 a0_2, .int .i64 a0_3, .slice A0_4 l0_4.length c0_4] 41 (0, 0)) (by (with_reducible repeat (first | refine kN_ ?_ _ | refine kD_ ?_ | refine kA_ ?_ _)); exact BK127.1) hb)
     have n3_ := Am_ (kB_ (g := gb128) (o := .cells #[.int .i64 a1_0, .int .i64 a1_1, .int .i64 a1_2, .int .i64 a1_3, .slice A1_4 l1_4.length c1_4] 41 (0, 0)) (by (with_reducible repeat (first | refine kN_ ?_ _ | refine kD_ ?_ | refine kA_ ?_ _)); exact BK128.1) hb)
     have n4_ := Am_ (bT_ (by repeat (first | (with_reducible first | exact HB.1 | apply bA_ | apply bN_ | apply bD_ | refine bS_ ?_ GE127.1 | refine bS_ ?_ GE128.1) | exact HB.1)) hb)
     clear HO137
     clear HO144
     clear BK127
     clear BK128
     clear HB
     have HO137 := n0_
     have HO144 := n1_
     have BK127 := n2_
     have BK128 := n3_
     have HB := n4_
     clear n0_ n1_ n2_ n3_ n4_
     (try clear hb)
     (try clear hb2)
     (try clear hk)
     (try clear hi)
     refine hK.out _ _ ⟨kC_ BK127.1 0, kC_ BK127.1 1, kC_ BK127.1 2, kC_ BK127.1 3, kC_ BK127.1 4, kC_ BK128.1 0, kC_ BK128.1 1, kC_ BK128.1 2, kC_ BK128.1 3, kC_ BK128.1 4⟩ (fun hHeld => ?_)
     clear hK K
     refine norm_ (a' := ?_) ?_ ?_
     rotate_left
     ·show Act.put _ (some 24) _ = _
      simp only [Act.put, List.setIfInBounds_toArray, List.set_cons_zero, List.set_cons_succ, i64_w, i32_w]
      rfl
     refine pure_ (i := 5) (N := some 6) (v := ?_) (a' := ?_) #[true, true, true, true, true, true] rfl rfl (by kernel_rfl) (fun _ _ _ h => h) (Or.inl ⟨by rfl, ?_⟩) ?_ ?_
     rotate_left
     ·intro w'
      go_simp
      with_reducible rfl
     rotate_left
     ·simp only [Act.put, List.setIfInBounds_toArray, List.set_cons_zero, List.set_cons_succ, i64_w, i32_w]
      rfl
     refine done_ (by kernel_rfl) ?_
     have hcz151_0 : w150.cell? ⟨gb127, 0, none⟩ = some (.int .i64 a0_0) := kC_ BK127.1 0
     have hcz151_1 : w150.cell? ⟨gb127, 1, none⟩ = some (.int .i64 a0_1) := kC_ BK127.1 1
     have hcz151_2 : w150.cell? ⟨gb127, 2, none⟩ = some (.int .i64 a0_2) := kC_ BK127.1 2
     have hcz151_3 : w150.cell? ⟨gb127, 3, none⟩ = some (.int .i64 a0_3) := kC_ BK127.1 3
     have hcz151_4 : w150.cell? ⟨gb127, 4, none⟩ = some (.slice A0_4 l0_4.length c0_4) := kC_ BK127.1 4
     have hfz151_0 := kF_ BK127.1 0
     have hfz151_1 := kF_ BK127.1 1
     have hfz151_2 := kF_ BK127.1 2
     have hfz151_3 := kF_ BK127.1 3
     have hfz151_4 := kF_ BK127.1 4
     try go_wp2_with (first | ((with_reducible refine gate_callee (f := 28) rfl ?_); refine goesL_ (some 26) rfl rfl Try.func28 (by kernel_rfl) rfl #[.agg #[.int .i64 a0_0, .int .i64 a0_1, .int .i64 a0_2, .int .i64 a0_3, .slice A0_4 l0_4.length c0_4]] rfl (by (try simp only [List.map_toArray, List.map_cons, List.map_nil]); first | done | rfl | (simp only [List.length_drop, List.length_take]; rfl)) ?_; (with_reducible refine (laws_toMeshFrame.calls k a0_0 a0_1 a0_2 a0_3 _ _ l0_4 t146 t147 t148 t149 t150 _ ?side1 ?side2 A22.1).mono ?_); (case side1 => repeat (first | exact (Kd.C_below HR0_4.1 HB.1) | (with_reducible refine Kd.C_alloc ?_ _) | (with_reducible refine Kd.C_drewN ?_ _) | (with_reducible refine Kd.C_drew ?_))); (case side2 => exact HC0_4.1); rintro e w152 ⟨v151, rfl, ho0, hb⟩; refine ⟨_, rfl, ?_⟩; have n0_ := Am_ (Kd.R_elder' (by (with_reducible repeat (first | apply rA_ | apply rN_ | apply rD_)); exact HO137.1) (Kd.R_base ho0) hb); have n1_ := Am_ (Kd.R_elder' (by (with_reducible repeat (first | apply rA_ | apply rN_ | apply rD_)); exact HO144.1) (Kd.R_base ho0) hb); have n2_ := Am_ (Kd.R_lower (Kd.R_new' (Kd.R_new' ho0 (Kd.R_lt (by (with_reducible repeat (first | apply rA_ | apply rN_ | apply rD_)); exact HO137.1))) (Kd.R_lt (by (with_reducible repeat (first | apply rA_ | apply rN_ | apply rD_)); exact HO144.1))) (bZ_ (by repeat (first | (with_reducible first | exact HB.1 | apply bA_ | apply bN_ | apply bD_ | refine bS_ ?_ GE127.1 | refine bS_ ?_ GE128.1) | exact HB.1)))); have n3_ := Am_ (kB_ (g := gb127) (o := .cells #[.int .i64 a0_0, .int .i64 a0_1, .int .i64 a0_2, .int .i64 a0_3, .slice A0_4 l0_4.length c0_4] 41 (0, 0)) (by (with_reducible repeat (first | refine kN_ ?_ _ | refine kD_ ?_ | refine kA_ ?_ _)); exact BK127.1) hb); have n4_ := Am_ (kB_ (g := gb128) (o := .cells #[.int .i64 a1_0, .int .i64 a1_1, .int .i64 a1_2, .int .i64 a1_3, .slice A1_4 l1_4.length c1_4] 41 (0, 0)) (by (with_reducible repeat (first | refine kN_ ?_ _ | refine kD_ ?_ | refine kA_ ?_ _)); exact BK128.1) hb); have n5_ := Am_ (bT_ (by repeat (first | (with_reducible first | exact HB.1 | apply bA_ | apply bN_ | apply bD_ | refine bS_ ?_ GE127.1 | refine bS_ ?_ GE128.1) | exact HB.1)) hb); clear HO137 HO144 BK127 BK128 HB; have HO137 := n0_; have HO144 := n1_; have HO152 := n2_; have BK127 := n3_; have BK128 := n4_; have HB := n5_; clear n0_ n1_ n2_ n3_ n4_ n5_; (try clear hb); (try clear hb2); (try clear hk); (try clear hi); (try clear ho0)) | ((with_reducible refine gate_dst (N := 7) rfl ?_); refine box_event ?hg (N := 7) ?hd (cs := #[.int .i64 0, .int .i64 0, .int .i64 0, .int .i64 0, .slice none 0 0]) (t := 44) ?hr ?_; (case hd => rfl); (case hg => rfl); (case hr => first | (go_simp; done) | (go_simp; rfl)); intro gb153 hg w153 hbox hb; have n0_ := Am_ (Kd.R_below (by (with_reducible repeat (first | apply rA_ | apply rN_ | apply rD_)); exact HO137.1) hb); have n1_ := Am_ (Kd.R_below (by (with_reducible repeat (first | apply rA_ | apply rN_ | apply rD_)); exact HO144.1) hb); have n2_ := Am_ (Kd.R_below (by (with_reducible repeat (first | apply rA_ | apply rN_ | apply rD_)); exact HO152.1) hb); have n3_ := Am_ (kB_ (g := gb127) (o := .cells #[.int .i64 a0_0, .int .i64 a0_1, .int .i64 a0_2, .int .i64 a0_3, .slice A0_4 l0_4.length c0_4] 41 (0, 0)) (by (with_reducible repeat (first | refine kN_ ?_ _ | refine kD_ ?_ | refine kA_ ?_ _)); exact BK127.1) hb); have n4_ := Am_ (kB_ (g := gb128) (o := .cells #[.int .i64 a1_0, .int .i64 a1_1, .int .i64 a1_2, .int .i64 a1_3, .slice A1_4 l1_4.length c1_4] 41 (0, 0)) (by (with_reducible repeat (first | refine kN_ ?_ _ | refine kD_ ?_ | refine kA_ ?_ _)); exact BK128.1) hb); have n5_ := Am_ (bT_ (by repeat (first | (with_reducible first | exact HB.1 | apply bA_ | apply bN_ | apply bD_ | refine bS_ ?_ GE127.1 | refine bS_ ?_ GE128.1) | exact HB.1)) hb); have n6_ := Am_ (hbox); have n7_ := Am_ ((by rw [hg]; exact (bZ_ (by repeat (first | (with_reducible first | exact HB.1 | apply bA_ | apply bN_ | apply bD_ | refine bS_ ?_ GE127.1 | refine bS_ ?_ GE128.1) | exact HB.1))) : w.heap.size ≤ gb153)); have n8_ := Am_ ((by rw [hg]; exact (bZ_ (by repeat (first | (with_reducible first | exact HB.1 | apply bA_ | apply bN_ | apply bD_ | refine bS_ ?_ GE127.1 | refine bS_ ?_ GE128.1) | exact HB.1))) : w.heap.size ≤ gb153)); have n9_ := Am_ ((by rw [hg]; exact Nat.ne_of_lt (blk_lt (g := gb127) (o := .cells #[.int .i64 a0_0, .int .i64 a0_1, .int .i64 a0_2, .int .i64 a0_3, .slice A0_4 l0_4.length c0_4] 41 (0, 0)) (by (with_reducible repeat (first | refine kN_ ?_ _ | refine kD_ ?_ | refine kA_ ?_ _)); exact BK127.1)) : gb127 ≠ gb153)); have n10_ := Am_ ((by rw [hg]; exact Nat.ne_of_gt (blk_lt (g := gb127) (o := .cells #[.int .i64 a0_0, .int .i64 a0_1, .int .i64 a0_2, .int .i64 a0_3, .slice A0_4 l0_4.length c0_4] 41 (0, 0)) (by (with_reducible repeat (first | refine kN_ ?_ _ | refine kD_ ?_ | refine kA_ ?_ _)); exact BK127.1)) : gb153 ≠ gb127)); have n11_ := Am_ ((by rw [hg]; exact Nat.ne_of_lt (blk_lt (g := gb128) (o := .cells #[.int .i64 a1_0, .int .i64 a1_1, .int .i64 a1_2, .int .i64 a1_3, .slice A1_4 l1_4.length c1_4] 41 (0, 0)) (by (with_reducible repeat (first | refine kN_ ?_ _ | refine kD_ ?_ | refine kA_ ?_ _)); exact BK128.1)) : gb128 ≠ gb153)); have n12_ := Am_ ((by rw [hg]; exact Nat.ne_of_gt (blk_lt (g := gb128) (o := .cells #[.int .i64 a1_0, .int .i64 a1_1, .int .i64 a1_2, .int .i64 a1_3, .slice A1_4 l1_4.length c1_4] 41 (0, 0)) (by (with_reducible repeat (first | refine kN_ ?_ _ | refine kD_ ?_ | refine kA_ ?_ _)); exact BK128.1)) : gb153 ≠ gb128)); clear HO137 HO144 HO152 BK127 BK128 HB; have HO137 := n0_; have HO144 := n1_; have HO152 := n2_; have BK127 := n3_; have BK128 := n4_; have HB := n5_; have BK153 := n6_; have GW153 := n7_; have GE153 := n8_; have NB127_153 := n9_; have NB153_127 := n10_; have NB128_153 := n11_; have NB153_128 := n12_; clear n0_ n1_ n2_ n3_ n4_ n5_ n6_ n7_ n8_ n9_ n10_ n11_ n12_ hb hbox hg; have hnb154 := NB153_127.1; have hnc154 := NB127_153.1; have hnb155 := NB153_128.1; have hnc155 := NB128_153.1; have hcz156_0 : w153.cell? ⟨gb153, 0, none⟩ = some (.int .i64 0) := kC_ BK153.1 0; have hcz156_1 : w153.cell? ⟨gb153, 1, none⟩ = some (.int .i64 0) := kC_ BK153.1 1; have hcz156_2 : w153.cell? ⟨gb153, 2, none⟩ = some (.int .i64 0) := kC_ BK153.1 2; have hcz156_3 : w153.cell? ⟨gb153, 3, none⟩ = some (.int .i64 0) := kC_ BK153.1 3; have hcz156_4 : w153.cell? ⟨gb153, 4, none⟩ = some (.slice none 0 0) := kC_ BK153.1 4; have hfz156_0 := kF_ BK153.1 0; have hfz156_1 := kF_ BK153.1 1; have hfz156_2 := kF_ BK153.1 2; have hfz156_3 := kF_ BK153.1 3; have hfz156_4 := kF_ BK153.1 4; obtain ⟨Ao157, co157, eo157⟩ := Kd.R_slice HO152.1; subst eo157; have hcz158_0 : w153.cell? ⟨gb128, 0, none⟩ = some (.int .i64 a1_0) := kC_ BK128.1 0; have hcz158_1 : w153.cell? ⟨gb128, 1, none⟩ = some (.int .i64 a1_1) := kC_ BK128.1 1; have hcz158_2 : w153.cell? ⟨gb128, 2, none⟩ = some (.int .i64 a1_2) := kC_ BK128.1 2; have hcz158_3 : w153.cell? ⟨gb128, 3, none⟩ = some (.int .i64 a1_3) := kC_ BK128.1 3; have hcz158_4 : w153.cell? ⟨gb128, 4, none⟩ = some (.slice A1_4 l1_4.length c1_4) := kC_ BK128.1 4; have hfz158_0 := kF_ BK128.1 0; have hfz158_1 := kF_ BK128.1 1; have hfz158_2 := kF_ BK128.1 2; have hfz158_3 := kF_ BK128.1 3; have hfz158_4 := kF_ BK128.1 4) | ((with_reducible refine gate_callee (f := 28) rfl ?_); refine goesL_ (some 28) rfl rfl Try.func28 (by kernel_rfl) rfl #[.agg #[.int .i64 a1_0, .int .i64 a1_1, .int .i64 a1_2, .int .i64 a1_3, .slice A1_4 l1_4.length c1_4]] rfl (by (try simp only [List.map_toArray, List.map_cons, List.map_nil]); first | done | rfl | (simp only [List.length_drop, List.length_take]; rfl)) ?_; (with_reducible refine (laws_toMeshFrame.calls k a1_0 a1_1 a1_2 a1_3 _ _ l1_4 t154 t155 t156 t157 t158 _ ?side1 ?side2 A23.1).mono ?_); (case side1 => exact Kd.C_below HR1_4.1 (by repeat (first | (with_reducible first | exact HB.1 | apply bA_ | apply bN_ | apply bD_ | refine bS_ ?_ GE127.1 | refine bS_ ?_ GE128.1 | refine bS_ ?_ GE153.1) | exact HB.1))); (case side2 => exact HC1_4.1); rintro e w159 ⟨v159, rfl, ho0, hb⟩; refine ⟨_, rfl, ?_⟩; have n0_ := Am_ (Kd.R_elder' (by (with_reducible repeat (first | apply rA_ | apply rN_ | apply rD_)); exact (Kd.R_mono (rF_ (p := ⟨gb153, 4, none⟩) (rF_ (p := ⟨gb153, 3, none⟩) (rF_ (p := ⟨gb153, 2, none⟩) (rF_ (p := ⟨gb153, 1, none⟩) (rF_ (p := ⟨gb153, 0, none⟩) (Kd.R_types HO137.1 BK153.1 (by decide)) (fun _ hk => hk.2) (.int .i64 t146)) (fun _ hk => hk.2) (.int .i64 t147)) (fun _ hk => hk.2) (.int .i64 t148)) (fun _ hk => hk.2) (.int .i64 t149)) (fun _ hk => hk.2) (.slice Ao157 t150.length co157)) (fun _ h_ => h_.1))) (Kd.R_base ho0) hb); have n1_ := Am_ (Kd.R_elder' (by (with_reducible repeat (first | apply rA_ | apply rN_ | apply rD_)); exact (Kd.R_mono (rF_ (p := ⟨gb153, 4, none⟩) (rF_ (p := ⟨gb153, 3, none⟩) (rF_ (p := ⟨gb153, 2, none⟩) (rF_ (p := ⟨gb153, 1, none⟩) (rF_ (p := ⟨gb153, 0, none⟩) (Kd.R_types HO144.1 BK153.1 (by decide)) (fun _ hk => hk.2) (.int .i64 t146)) (fun _ hk => hk.2) (.int .i64 t147)) (fun _ hk => hk.2) (.int .i64 t148)) (fun _ hk => hk.2) (.int .i64 t149)) (fun _ hk => hk.2) (.slice Ao157 t150.length co157)) (fun _ h_ => h_.1))) (Kd.R_base ho0) hb); have n2_ := Am_ (Kd.R_elder' (by (with_reducible repeat (first | apply rA_ | apply rN_ | apply rD_)); exact (Kd.R_mono (rF_ (p := ⟨gb153, 4, none⟩) (rF_ (p := ⟨gb153, 3, none⟩) (rF_ (p := ⟨gb153, 2, none⟩) (rF_ (p := ⟨gb153, 1, none⟩) (rF_ (p := ⟨gb153, 0, none⟩) (Kd.R_types HO152.1 BK153.1 (by decide)) (fun _ hk => hk.2) (.int .i64 t146)) (fun _ hk => hk.2) (.int .i64 t147)) (fun _ hk => hk.2) (.int .i64 t148)) (fun _ hk => hk.2) (.int .i64 t149)) (fun _ hk => hk.2) (.slice Ao157 t150.length co157)) (fun _ h_ => h_.1))) (Kd.R_base ho0) hb); have n3_ := Am_ (Kd.R_lower (Kd.R_new' (Kd.R_new' (Kd.R_new' ho0 (Kd.R_lt (by (with_reducible repeat (first | apply rA_ | apply rN_ | apply rD_)); exact (Kd.R_mono (rF_ (p := ⟨gb153, 4, none⟩) (rF_ (p := ⟨gb153, 3, none⟩) (rF_ (p := ⟨gb153, 2, none⟩) (rF_ (p := ⟨gb153, 1, none⟩) (rF_ (p := ⟨gb153, 0, none⟩) (Kd.R_types HO137.1 BK153.1 (by decide)) (fun _ hk => hk.2) (.int .i64 t146)) (fun _ hk => hk.2) (.int .i64 t147)) (fun _ hk => hk.2) (.int .i64 t148)) (fun _ hk => hk.2) (.int .i64 t149)) (fun _ hk => hk.2) (.slice Ao157 t150.length co157)) (fun _ h_ => h_.1))))) (Kd.R_lt (by (with_reducible repeat (first | apply rA_ | apply rN_ | apply rD_)); exact (Kd.R_mono (rF_ (p := ⟨gb153, 4, none⟩) (rF_ (p := ⟨gb153, 3, none⟩) (rF_ (p := ⟨gb153, 2, none⟩) (rF_ (p := ⟨gb153, 1, none⟩) (rF_ (p := ⟨gb153, 0, none⟩) (Kd.R_types HO144.1 BK153.1 (by decide)) (fun _ hk => hk.2) (.int .i64 t146)) (fun _ hk => hk.2) (.int .i64 t147)) (fun _ hk => hk.2) (.int .i64 t148)) (fun _ hk => hk.2) (.int .i64 t149)) (fun _ hk => hk.2) (.slice Ao157 t150.length co157)) (fun _ h_ => h_.1))))) (Kd.R_lt (by (with_reducible repeat (first | apply rA_ | apply rN_ | apply rD_)); exact (Kd.R_mono (rF_ (p := ⟨gb153, 4, none⟩) (rF_ (p := ⟨gb153, 3, none⟩) (rF_ (p := ⟨gb153, 2, none⟩) (rF_ (p := ⟨gb153, 1, none⟩) (rF_ (p := ⟨gb153, 0, none⟩) (Kd.R_types HO152.1 BK153.1 (by decide)) (fun _ hk => hk.2) (.int .i64 t146)) (fun _ hk => hk.2) (.int .i64 t147)) (fun _ hk => hk.2) (.int .i64 t148)) (fun _ hk => hk.2) (.int .i64 t149)) (fun _ hk => hk.2) (.slice Ao157 t150.length co157)) (fun _ h_ => h_.1))))) (bZ_ (by repeat (first | (with_reducible first | exact HB.1 | apply bA_ | apply bN_ | apply bD_ | refine bS_ ?_ GE127.1 | refine bS_ ?_ GE128.1 | refine bS_ ?_ GE153.1) | exact HB.1)))); have n4_ := Am_ (kB_ (g := gb127) (o := .cells #[.int .i64 a0_0, .int .i64 a0_1, .int .i64 a0_2, .int .i64 a0_3, .slice A0_4 l0_4.length c0_4] 41 (0, 0)) (by (with_reducible repeat (first | refine kN_ ?_ _ | refine kD_ ?_ | refine kA_ ?_ _)); refine blk_far ?_ NB127_153.1 _; (with_reducible repeat (first | refine kN_ ?_ _ | refine kD_ ?_ | refine kA_ ?_ _)); refine blk_far ?_ NB127_153.1 _; (with_reducible repeat (first | refine kN_ ?_ _ | refine kD_ ?_ | refine kA_ ?_ _)); refine blk_far ?_ NB127_153.1 _; (with_reducible repeat (first | refine kN_ ?_ _ | refine kD_ ?_ | refine kA_ ?_ _)); refine blk_far ?_ NB127_153.1 _; (with_reducible repeat (first | refine kN_ ?_ _ | refine kD_ ?_ | refine kA_ ?_ _)); refine blk_far ?_ NB127_153.1 _; (with_reducible repeat (first | refine kN_ ?_ _ | refine kD_ ?_ | refine kA_ ?_ _)); exact BK127.1) hb); have n5_ := Am_ (kB_ (g := gb128) (o := .cells #[.int .i64 a1_0, .int .i64 a1_1, .int .i64 a1_2, .int .i64 a1_3, .slice A1_4 l1_4.length c1_4] 41 (0, 0)) (by (with_reducible repeat (first | refine kN_ ?_ _ | refine kD_ ?_ | refine kA_ ?_ _)); refine blk_far ?_ NB128_153.1 _; (with_reducible repeat (first | refine kN_ ?_ _ | refine kD_ ?_ | refine kA_ ?_ _)); refine blk_far ?_ NB128_153.1 _; (with_reducible repeat (first | refine kN_ ?_ _ | refine kD_ ?_ | refine kA_ ?_ _)); refine blk_far ?_ NB128_153.1 _; (with_reducible repeat (first | refine kN_ ?_ _ | refine kD_ ?_ | refine kA_ ?_ _)); refine blk_far ?_ NB128_153.1 _; (with_reducible repeat (first | refine kN_ ?_ _ | refine kD_ ?_ | refine kA_ ?_ _)); refine blk_far ?_ NB128_153.1 _; (with_reducible repeat (first | refine kN_ ?_ _ | refine kD_ ?_ | refine kA_ ?_ _)); exact BK128.1) hb); have n6_ := Am_ (kB_ (g := gb153) (o := .cells #[.int .i64 t146, .int .i64 t147, .int .i64 t148, .int .i64 t149, .slice Ao157 t150.length co157] 44 (0, 0)) (by (with_reducible repeat (first | refine kN_ ?_ _ | refine kD_ ?_ | refine kA_ ?_ _)); refine blk_put (cs := #[.int .i64 t146, .int .i64 t147, .int .i64 t148, .int .i64 t149, .slice none 0 0]) ?_ 4 _ rfl; (with_reducible repeat (first | refine kN_ ?_ _ | refine kD_ ?_ | refine kA_ ?_ _)); refine blk_put (cs := #[.int .i64 t146, .int .i64 t147, .int .i64 t148, .int .i64 0, .slice none 0 0]) ?_ 3 _ rfl; (with_reducible repeat (first | refine kN_ ?_ _ | refine kD_ ?_ | refine kA_ ?_ _)); refine blk_put (cs := #[.int .i64 t146, .int .i64 t147, .int .i64 0, .int .i64 0, .slice none 0 0]) ?_ 2 _ rfl; (with_reducible repeat (first | refine kN_ ?_ _ | refine kD_ ?_ | refine kA_ ?_ _)); refine blk_put (cs := #[.int .i64 t146, .int .i64 0, .int .i64 0, .int .i64 0, .slice none 0 0]) ?_ 1 _ rfl; (with_reducible repeat (first | refine kN_ ?_ _ | refine kD_ ?_ | refine kA_ ?_ _)); refine blk_put (cs := #[.int .i64 0, .int .i64 0, .int .i64 0, .int .i64 0, .slice none 0 0]) ?_ 0 _ rfl; (with_reducible repeat (first | refine kN_ ?_ _ | refine kD_ ?_ | refine kA_ ?_ _)); exact BK153.1) hb); have n7_ := Am_ (bT_ (by repeat (first | (with_reducible first | exact HB.1 | apply bA_ | apply bN_ | apply bD_ | refine bS_ ?_ GE127.1 | refine bS_ ?_ GE128.1 | refine bS_ ?_ GE153.1) | exact HB.1)) hb); clear HO137 HO144 HO152 BK127 BK128 BK153 HB; have HO137 := n0_; have HO144 := n1_; have HO152 := n2_; have HO160 := n3_; have BK127 := n4_; have BK128 := n5_; have BK153 := n6_; have HB := n7_; clear n0_ n1_ n2_ n3_ n4_ n5_ n6_ n7_; (try clear hb); (try clear hb2); (try clear hk); (try clear hi); (try clear ho0)) | ((with_reducible refine gate_dst (N := 8) rfl ?_); refine box_event ?hg (N := 8) ?hd (cs := #[.int .i64 0, .int .i64 0, .int .i64 0, .int .i64 0, .slice none 0 0]) (t := 44) ?hr ?_; (case hd => rfl); (case hg => rfl); (case hr => first | (go_simp; done) | (go_simp; rfl)); intro gb161 hg w160 hbox hb; have n0_ := Am_ (Kd.R_below (by (with_reducible repeat (first | apply rA_ | apply rN_ | apply rD_)); exact HO137.1) hb); have n1_ := Am_ (Kd.R_below (by (with_reducible repeat (first | apply rA_ | apply rN_ | apply rD_)); exact HO144.1) hb); have n2_ := Am_ (Kd.R_below (by (with_reducible repeat (first | apply rA_ | apply rN_ | apply rD_)); exact HO152.1) hb); have n3_ := Am_ (Kd.R_below (by (with_reducible repeat (first | apply rA_ | apply rN_ | apply rD_)); exact HO160.1) hb); have n4_ := Am_ (kB_ (g := gb127) (o := .cells #[.int .i64 a0_0, .int .i64 a0_1, .int .i64 a0_2, .int .i64 a0_3, .slice A0_4 l0_4.length c0_4] 41 (0, 0)) (by (with_reducible repeat (first | refine kN_ ?_ _ | refine kD_ ?_ | refine kA_ ?_ _)); exact BK127.1) hb); have n5_ := Am_ (kB_ (g := gb128) (o := .cells #[.int .i64 a1_0, .int .i64 a1_1, .int .i64 a1_2, .int .i64 a1_3, .slice A1_4 l1_4.length c1_4] 41 (0, 0)) (by (with_reducible repeat (first | refine kN_ ?_ _ | refine kD_ ?_ | refine kA_ ?_ _)); exact BK128.1) hb); have n6_ := Am_ (kB_ (g := gb153) (o := .cells #[.int .i64 t146, .int .i64 t147, .int .i64 t148, .int .i64 t149, .slice Ao157 t150.length co157] 44 (0, 0)) (by (with_reducible repeat (first | refine kN_ ?_ _ | refine kD_ ?_ | refine kA_ ?_ _)); exact BK153.1) hb); have n7_ := Am_ (bT_ (by repeat (first | (with_reducible first | exact HB.1 | apply bA_ | apply bN_ | apply bD_ | refine bS_ ?_ GE127.1 | refine bS_ ?_ GE128.1 | refine bS_ ?_ GE153.1) | exact HB.1)) hb); have n8_ := Am_ (hbox); have n9_ := Am_ ((by rw [hg]; exact (bZ_ (by repeat (first | (with_reducible first | exact HB.1 | apply bA_ | apply bN_ | apply bD_ | refine bS_ ?_ GE127.1 | refine bS_ ?_ GE128.1 | refine bS_ ?_ GE153.1) | exact HB.1))) : w.heap.size ≤ gb161)); have n10_ := Am_ ((by rw [hg]; exact (bZ_ (by repeat (first | (with_reducible first | exact HB.1 | apply bA_ | apply bN_ | apply bD_ | refine bS_ ?_ GE127.1 | refine bS_ ?_ GE128.1 | refine bS_ ?_ GE153.1) | exact HB.1))) : w.heap.size ≤ gb161)); have n11_ := Am_ ((by rw [hg]; exact Nat.ne_of_lt (blk_lt (g := gb127) (o := .cells #[.int .i64 a0_0, .int .i64 a0_1, .int .i64 a0_2, .int .i64 a0_3, .slice A0_4 l0_4.length c0_4] 41 (0, 0)) (by (with_reducible repeat (first | refine kN_ ?_ _ | refine kD_ ?_ | refine kA_ ?_ _)); exact BK127.1)) : gb127 ≠ gb161)); have n12_ := Am_ ((by rw [hg]; exact Nat.ne_of_gt (blk_lt (g := gb127) (o := .cells #[.int .i64 a0_0, .int .i64 a0_1, .int .i64 a0_2, .int .i64 a0_3, .slice A0_4 l0_4.length c0_4] 41 (0, 0)) (by (with_reducible repeat (first | refine kN_ ?_ _ | refine kD_ ?_ | refine kA_ ?_ _)); exact BK127.1)) : gb161 ≠ gb127)); have n13_ := Am_ ((by rw [hg]; exact Nat.ne_of_lt (blk_lt (g := gb128) (o := .cells #[.int .i64 a1_0, .int .i64 a1_1, .int .i64 a1_2, .int .i64 a1_3, .slice A1_4 l1_4.length c1_4] 41 (0, 0)) (by (with_reducible repeat (first | refine kN_ ?_ _ | refine kD_ ?_ | refine kA_ ?_ _)); exact BK128.1)) : gb128 ≠ gb161)); have n14_ := Am_ ((by rw [hg]; exact Nat.ne_of_gt (blk_lt (g := gb128) (o := .cells #[.int .i64 a1_0, .int .i64 a1_1, .int .i64 a1_2, .int .i64 a1_3, .slice A1_4 l1_4.length c1_4] 41 (0, 0)) (by (with_reducible repeat (first | refine kN_ ?_ _ | refine kD_ ?_ | refine kA_ ?_ _)); exact BK128.1)) : gb161 ≠ gb128)); have n15_ := Am_ ((by rw [hg]; exact Nat.ne_of_lt (blk_lt (g := gb153) (o := .cells #[.int .i64 t146, .int .i64 t147, .int .i64 t148, .int .i64 t149, .slice Ao157 t150.length co157] 44 (0, 0)) (by (with_reducible repeat (first | refine kN_ ?_ _ | refine kD_ ?_ | refine kA_ ?_ _)); exact BK153.1)) : gb153 ≠ gb161)); have n16_ := Am_ ((by rw [hg]; exact Nat.ne_of_gt (blk_lt (g := gb153) (o := .cells #[.int .i64 t146, .int .i64 t147, .int .i64 t148, .int .i64 t149, .slice Ao157 t150.length co157] 44 (0, 0)) (by (with_reducible repeat (first | refine kN_ ?_ _ | refine kD_ ?_ | refine kA_ ?_ _)); exact BK153.1)) : gb161 ≠ gb153)); clear HO137 HO144 HO152 HO160 BK127 BK128 BK153 HB; have HO137 := n0_; have HO144 := n1_; have HO152 := n2_; have HO160 := n3_; have BK127 := n4_; have BK128 := n5_; have BK153 := n6_; have HB := n7_; have BK161 := n8_; have GW161 := n9_; have GE161 := n10_; have NB127_161 := n11_; have NB161_127 := n12_; have NB128_161 := n13_; have NB161_128 := n14_; have NB153_161 := n15_; have NB161_153 := n16_; clear n0_ n1_ n2_ n3_ n4_ n5_ n6_ n7_ n8_ n9_ n10_ n11_ n12_ n13_ n14_ n15_ n16_ hb hbox hg; have hnb161 := NB161_127.1; have hnc161 := NB127_161.1; have hnb162 := NB161_128.1; have hnc162 := NB128_161.1; have hnb163 := NB161_153.1; have hnc163 := NB153_161.1; have hcz164_0 : w160.cell? ⟨gb161, 0, none⟩ = some (.int .i64 0) := kC_ BK161.1 0; have hcz164_1 : w160.cell? ⟨gb161, 1, none⟩ = some (.int .i64 0) := kC_ BK161.1 1; have hcz164_2 : w160.cell? ⟨gb161, 2, none⟩ = some (.int .i64 0) := kC_ BK161.1 2; have hcz164_3 : w160.cell? ⟨gb161, 3, none⟩ = some (.int .i64 0) := kC_ BK161.1 3; have hcz164_4 : w160.cell? ⟨gb161, 4, none⟩ = some (.slice none 0 0) := kC_ BK161.1 4; have hfz164_0 := kF_ BK161.1 0; have hfz164_1 := kF_ BK161.1 1; have hfz164_2 := kF_ BK161.1 2; have hfz164_3 := kF_ BK161.1 3; have hfz164_4 := kF_ BK161.1 4; obtain ⟨Ao165, co165, eo165⟩ := Kd.R_slice HO160.1; subst eo165; have hcz166_0 : w160.cell? ⟨gb153, 0, none⟩ = some (.int .i64 t146) := kC_ BK153.1 0; have hcz166_1 : w160.cell? ⟨gb153, 1, none⟩ = some (.int .i64 t147) := kC_ BK153.1 1; have hcz166_2 : w160.cell? ⟨gb153, 2, none⟩ = some (.int .i64 t148) := kC_ BK153.1 2; have hcz166_3 : w160.cell? ⟨gb153, 3, none⟩ = some (.int .i64 t149) := kC_ BK153.1 3; have hcz166_4 : w160.cell? ⟨gb153, 4, none⟩ = some (.slice Ao157 t150.length co157) := kC_ BK153.1 4; have hfz166_0 := kF_ BK153.1 0; have hfz166_1 := kF_ BK153.1 1; have hfz166_2 := kF_ BK153.1 2; have hfz166_3 := kF_ BK153.1 3; have hfz166_4 := kF_ BK153.1 4) | ((with_reducible refine gate_callee (f := 29) rfl ?_); refine goesL_ (some 31) rfl rfl Try.func29 (by kernel_rfl) rfl #[.agg #[.int .i64 t146, .int .i64 t147, .int .i64 t148, .int .i64 t149, .slice Ao157 t150.length co157], .agg #[.int .i64 t154, .int .i64 t155, .int .i64 t156, .int .i64 t157, .slice Ao165 t158.length co165]] rfl (by (try simp only [List.map_toArray, List.map_cons, List.map_nil]); first | done | rfl | (simp only [List.length_drop, List.length_take]; rfl)) ?_; (with_reducible refine (impl_EqualMeshFrames.calls k t146 t147 t148 t149 _ _ t150 t154 t155 t156 t157 _ _ t158 t162 _ ?side1 ?side2 ?side3 ?side4 A24.1).mono ?_); (case side1 => refine (Kd.R_reads' (e := 5) (base := w.heap.size) (ok := fun k_ => (((True ∧ some k_ ≠ (.slice Ao148 t135.length co148 : Value).ownBlock) ∧ some k_ ≠ (.slice Ao149 t142.length co149 : Value).ownBlock) ∧ some k_ ≠ (.slice Ao165 t158.length co165 : Value).ownBlock)) (n := t150.length) (c := co157) ?_).2.2; exact (by (with_reducible repeat (first | apply rA_ | apply rN_ | apply rD_)); exact (Kd.R_mono (rF_ (p := ⟨gb161, 4, none⟩) (rF_ (p := ⟨gb161, 3, none⟩) (rF_ (p := ⟨gb161, 2, none⟩) (rF_ (p := ⟨gb161, 1, none⟩) (rF_ (p := ⟨gb161, 0, none⟩) (Kd.R_types HO152.1 BK161.1 (by decide)) (fun _ hk => hk.2) (.int .i64 t154)) (fun _ hk => hk.2) (.int .i64 t155)) (fun _ hk => hk.2) (.int .i64 t156)) (fun _ hk => hk.2) (.int .i64 t157)) (fun _ hk => hk.2) (.slice Ao165 t158.length co165)) (fun _ h_ => h_.1)))); (case side2 => exact (Kd.R_reads' HO152.1).2.1); (case side3 => refine (Kd.R_reads' (e := 5) (base := w.heap.size) (ok := fun k_ => (((True ∧ some k_ ≠ (.slice Ao148 t135.length co148 : Value).ownBlock) ∧ some k_ ≠ (.slice Ao149 t142.length co149 : Value).ownBlock) ∧ some k_ ≠ (.slice Ao157 t150.length co157 : Value).ownBlock)) (n := t158.length) (c := co165) ?_).2.2; exact (by (with_reducible repeat (first | apply rA_ | apply rN_ | apply rD_)); exact (Kd.R_mono (rF_ (p := ⟨gb161, 4, none⟩) (rF_ (p := ⟨gb161, 3, none⟩) (rF_ (p := ⟨gb161, 2, none⟩) (rF_ (p := ⟨gb161, 1, none⟩) (rF_ (p := ⟨gb161, 0, none⟩) (Kd.R_types HO160.1 BK161.1 (by decide)) (fun _ hk => hk.2) (.int .i64 t154)) (fun _ hk => hk.2) (.int .i64 t155)) (fun _ hk => hk.2) (.int .i64 t156)) (fun _ hk => hk.2) (.int .i64 t157)) (fun _ hk => hk.2) (.slice Ao165 t158.length co165)) (fun _ h_ => h_.1)))); (case side4 => exact (Kd.R_reads' HO160.1).2.1); rintro e w167 ⟨rfl, hb⟩; refine ⟨_, rfl, ?_⟩; have n0_ := Am_ (Kd.R_below (by (with_reducible repeat (first | apply rA_ | apply rN_ | apply rD_)); exact (Kd.R_mono (rF_ (p := ⟨gb161, 4, none⟩) (rF_ (p := ⟨gb161, 3, none⟩) (rF_ (p := ⟨gb161, 2, none⟩) (rF_ (p := ⟨gb161, 1, none⟩) (rF_ (p := ⟨gb161, 0, none⟩) (Kd.R_types HO137.1 BK161.1 (by decide)) (fun _ hk => hk.2) (.int .i64 t154)) (fun _ hk => hk.2) (.int .i64 t155)) (fun _ hk => hk.2) (.int .i64 t156)) (fun _ hk => hk.2) (.int .i64 t157)) (fun _ hk => hk.2) (.slice Ao165 t158.length co165)) (fun _ h_ => h_.1))) hb); have n1_ := Am_ (Kd.R_below (by (with_reducible repeat (first | apply rA_ | apply rN_ | apply rD_)); exact (Kd.R_mono (rF_ (p := ⟨gb161, 4, none⟩) (rF_ (p := ⟨gb161, 3, none⟩) (rF_ (p := ⟨gb161, 2, none⟩) (rF_ (p := ⟨gb161, 1, none⟩) (rF_ (p := ⟨gb161, 0, none⟩) (Kd.R_types HO144.1 BK161.1 (by decide)) (fun _ hk => hk.2) (.int .i64 t154)) (fun _ hk => hk.2) (.int .i64 t155)) (fun _ hk => hk.2) (.int .i64 t156)) (fun _ hk => hk.2) (.int .i64 t157)) (fun _ hk => hk.2) (.slice Ao165 t158.length co165)) (fun _ h_ => h_.1))) hb); have n2_ := Am_ (Kd.R_below (by (with_reducible repeat (first | apply rA_ | apply rN_ | apply rD_)); exact (Kd.R_mono (rF_ (p := ⟨gb161, 4, none⟩) (rF_ (p := ⟨gb161, 3, none⟩) (rF_ (p := ⟨gb161, 2, none⟩) (rF_ (p := ⟨gb161, 1, none⟩) (rF_ (p := ⟨gb161, 0, none⟩) (Kd.R_types HO152.1 BK161.1 (by decide)) (fun _ hk => hk.2) (.int .i64 t154)) (fun _ hk => hk.2) (.int .i64 t155)) (fun _ hk => hk.2) (.int .i64 t156)) (fun _ hk => hk.2) (.int .i64 t157)) (fun _ hk => hk.2) (.slice Ao165 t158.length co165)) (fun _ h_ => h_.1))) hb); have n3_ := Am_ (Kd.R_below (by (with_reducible repeat (first | apply rA_ | apply rN_ | apply rD_)); exact (Kd.R_mono (rF_ (p := ⟨gb161, 4, none⟩) (rF_ (p := ⟨gb161, 3, none⟩) (rF_ (p := ⟨gb161, 2, none⟩) (rF_ (p := ⟨gb161, 1, none⟩) (rF_ (p := ⟨gb161, 0, none⟩) (Kd.R_types HO160.1 BK161.1 (by decide)) (fun _ hk => hk.2) (.int .i64 t154)) (fun _ hk => hk.2) (.int .i64 t155)) (fun _ hk => hk.2) (.int .i64 t156)) (fun _ hk => hk.2) (.int .i64 t157)) (fun _ hk => hk.2) (.slice Ao165 t158.length co165)) (fun _ h_ => h_.1))) hb); have n4_ := Am_ (kB_ (g := gb127) (o := .cells #[.int .i64 a0_0, .int .i64 a0_1, .int .i64 a0_2, .int .i64 a0_3, .slice A0_4 l0_4.length c0_4] 41 (0, 0)) (by (with_reducible repeat (first | refine kN_ ?_ _ | refine kD_ ?_ | refine kA_ ?_ _)); refine blk_far ?_ NB127_161.1 _; (with_reducible repeat (first | refine kN_ ?_ _ | refine kD_ ?_ | refine kA_ ?_ _)); refine blk_far ?_ NB127_161.1 _; (with_reducible repeat (first | refine kN_ ?_ _ | refine kD_ ?_ | refine kA_ ?_ _)); refine blk_far ?_ NB127_161.1 _; (with_reducible repeat (first | refine kN_ ?_ _ | refine kD_ ?_ | refine kA_ ?_ _)); refine blk_far ?_ NB127_161.1 _; (with_reducible repeat (first | refine kN_ ?_ _ | refine kD_ ?_ | refine kA_ ?_ _)); refine blk_far ?_ NB127_161.1 _; (with_reducible repeat (first | refine kN_ ?_ _ | refine kD_ ?_ | refine kA_ ?_ _)); exact BK127.1) hb); have n5_ := Am_ (kB_ (g := gb128) (o := .cells #[.int .i64 a1_0, .int .i64 a1_1, .int .i64 a1_2, .int .i64 a1_3, .slice A1_4 l1_4.length c1_4] 41 (0, 0)) (by (with_reducible repeat (first | refine kN_ ?_ _ | refine kD_ ?_ | refine kA_ ?_ _)); refine blk_far ?_ NB128_161.1 _; (with_reducible repeat (first | refine kN_ ?_ _ | refine kD_ ?_ | refine kA_ ?_ _)); refine blk_far ?_ NB128_161.1 _; (with_reducible repeat (first | refine kN_ ?_ _ | refine kD_ ?_ | refine kA_ ?_ _)); refine blk_far ?_ NB128_161.1 _; (with_reducible repeat (first | refine kN_ ?_ _ | refine kD_ ?_ | refine kA_ ?_ _)); refine blk_far ?_ NB128_161.1 _; (with_reducible repeat (first | refine kN_ ?_ _ | refine kD_ ?_ | refine kA_ ?_ _)); refine blk_far ?_ NB128_161.1 _; (with_reducible repeat (first | refine kN_ ?_ _ | refine kD_ ?_ | refine kA_ ?_ _)); exact BK128.1) hb); have n6_ := Am_ (kB_ (g := gb153) (o := .cells #[.int .i64 t146, .int .i64 t147, .int .i64 t148, .int .i64 t149, .slice Ao157 t150.length co157] 44 (0, 0)) (by (with_reducible repeat (first | refine kN_ ?_ _ | refine kD_ ?_ | refine kA_ ?_ _)); refine blk_far ?_ NB153_161.1 _; (with_reducible repeat (first | refine kN_ ?_ _ | refine kD_ ?_ | refine kA_ ?_ _)); refine blk_far ?_ NB153_161.1 _; (with_reducible repeat (first | refine kN_ ?_ _ | refine kD_ ?_ | refine kA_ ?_ _)); refine blk_far ?_ NB153_161.1 _; (with_reducible repeat (first | refine kN_ ?_ _ | refine kD_ ?_ | refine kA_ ?_ _)); refine blk_far ?_ NB153_161.1 _; (with_reducible repeat (first | refine kN_ ?_ _ | refine kD_ ?_ | refine kA_ ?_ _)); refine blk_far ?_ NB153_161.1 _; (with_reducible repeat (first | refine kN_ ?_ _ | refine kD_ ?_ | refine kA_ ?_ _)); exact BK153.1) hb); have n7_ := Am_ (kB_ (g := gb161) (o := .cells #[.int .i64 t154, .int .i64 t155, .int .i64 t156, .int .i64 t157, .slice Ao165 t158.length co165] 44 (0, 0)) (by (with_reducible repeat (first | refine kN_ ?_ _ | refine kD_ ?_ | refine kA_ ?_ _)); refine blk_put (cs := #[.int .i64 t154, .int .i64 t155, .int .i64 t156, .int .i64 t157, .slice none 0 0]) ?_ 4 _ rfl; (with_reducible repeat (first | refine kN_ ?_ _ | refine kD_ ?_ | refine kA_ ?_ _)); refine blk_put (cs := #[.int .i64 t154, .int .i64 t155, .int .i64 t156, .int .i64 0, .slice none 0 0]) ?_ 3 _ rfl; (with_reducible repeat (first | refine kN_ ?_ _ | refine kD_ ?_ | refine kA_ ?_ _)); refine blk_put (cs := #[.int .i64 t154, .int .i64 t155, .int .i64 0, .int .i64 0, .slice none 0 0]) ?_ 2 _ rfl; (with_reducible repeat (first | refine kN_ ?_ _ | refine kD_ ?_ | refine kA_ ?_ _)); refine blk_put (cs := #[.int .i64 t154, .int .i64 0, .int .i64 0, .int .i64 0, .slice none 0 0]) ?_ 1 _ rfl; (with_reducible repeat (first | refine kN_ ?_ _ | refine kD_ ?_ | refine kA_ ?_ _)); refine blk_put (cs := #[.int .i64 0, .int .i64 0, .int .i64 0, .int .i64 0, .slice none 0 0]) ?_ 0 _ rfl; (with_reducible repeat (first | refine kN_ ?_ _ | refine kD_ ?_ | refine kA_ ?_ _)); exact BK161.1) hb); have n8_ := Am_ (bT_ (by repeat (first | (with_reducible first | exact HB.1 | apply bA_ | apply bN_ | apply bD_ | refine bS_ ?_ GE127.1 | refine bS_ ?_ GE128.1 | refine bS_ ?_ GE153.1 | refine bS_ ?_ GE161.1) | exact HB.1)) hb); clear HO137 HO144 HO152 HO160 BK127 BK128 BK153 BK161 HB; have HO137 := n0_; have HO144 := n1_; have HO152 := n2_; have HO160 := n3_; have BK127 := n4_; have BK128 := n5_; have BK153 := n6_; have BK161 := n7_; have HB := n8_; clear n0_ n1_ n2_ n3_ n4_ n5_ n6_ n7_ n8_; (try clear hb); (try clear hb2); (try clear hk); (try clear hi)))
     have n0_ := Am_ (rD_ HO137.1)
     have n1_ := Am_ (rD_ HO144.1)
     have n2_ := Am_ (rD_ HO152.1)
     have n3_ := Am_ (rD_ HO160.1)
     have n4_ := Am_ (kD_ BK127.1)
     have n5_ := Am_ (kD_ BK128.1)
     have n6_ := Am_ (kD_ BK153.1)
     have n7_ := Am_ (kD_ BK161.1)
     have n8_ := Am_ (bD_ HB.1)
     clear HO137
     clear HO144
     clear HO152
     clear HO160
     clear BK127
     clear BK128
     clear BK153
     clear BK161
     clear HB
     have HO137 := n0_
     have HO144 := n1_
     have HO152 := n2_
     have HO160 := n3_
     have BK127 := n4_
     have BK128 := n5_
     have BK153 := n6_
     have BK161 := n7_
     have HB := n8_
     clear n0_ n1_ n2_ n3_ n4_ n5_ n6_ n7_ n8_
     refine start_ (n := 5) (S := fun w' => w'.cell? ⟨gb153, 0, none⟩ = some (.int .i64 t146) ∧ w'.cell? ⟨gb153, 1, none⟩ = some (.int .i64 t147) ∧ w'.cell? ⟨gb153, 2, none⟩ = some (.int .i64 t148) ∧ w'.cell? ⟨gb153, 3, none⟩ = some (.int .i64 t149) ∧ w'.cell? ⟨gb153, 4, none⟩ = some (.slice Ao157 t150.length co157) ∧ w'.cell? ⟨gb127, 0, none⟩ = some (.int .i64 a0_0) ∧ w'.cell? ⟨gb127, 1, none⟩ = some (.int .i64 a0_1) ∧ w'.cell? ⟨gb127, 2, none⟩ = some (.int .i64 a0_2) ∧ w'.cell? ⟨gb127, 3, none⟩ = some (.int .i64 a0_3) ∧ w'.cell? ⟨gb127, 4, none⟩ = some (.slice A0_4 l0_4.length c0_4)) (ds := []) #[false, false, false, false, false] (by kernel_rfl) rfl rfl ⟨kC_ BK153.1 0, kC_ BK153.1 1, kC_ BK153.1 2, kC_ BK153.1 3, kC_ BK153.1 4, kC_ BK127.1 0, kC_ BK127.1 1, kC_ BK127.1 2, kC_ BK127.1 3, kC_ BK127.1 4⟩ (fun hHeld => ?_)
     generalize w167.drew = w168 at HO137 HO144 HO152 HO160 BK127 BK128 BK153 BK161 HB hHeld ⊢
     refine take_ (i := 0) (N := some 35) (v := ?_) (a' := ?_) #[true, false, false, false, false] rfl rfl (by kernel_rfl) (fun _ _ _ h => h) (Or.inl ⟨by rfl, ?_⟩) hHeld ?_ ?_
     rotate_left
     ·rintro w' ⟨s0, s1, s2, s3, s4, s5, s6, s7, s8, s9⟩
      go_simp
      with_reducible rfl
     rotate_left
     ·simp only [Act.put, List.setIfInBounds_toArray, List.set_cons_zero, List.set_cons_succ, i64_w, i32_w]
      rfl
     refine take_ (i := 1) (N := some 36) (v := ?_) (a' := ?_) #[true, true, false, false, false] rfl rfl (by kernel_rfl) (fun _ _ _ h => h) (Or.inl ⟨by rfl, ?_⟩) hHeld ?_ ?_
     rotate_left
     ·rintro w' ⟨s0, s1, s2, s3, s4, s5, s6, s7, s8, s9⟩
      go_simp
      with_reducible rfl
     rotate_left
     ·simp only [Act.put, List.setIfInBounds_toArray, List.set_cons_zero, List.set_cons_succ, i64_w, i32_w]
      rfl
     refine one_ (i := 2) (N := some 37) #[true, true, true, false, false] rfl rfl (by kernel_rfl) (by decide) (fun K hK => ?_)
     refine goes_ Try.func28 (by kernel_rfl) rfl #[.agg #[.int .i64 a0_0, .int .i64 a0_1, .int .i64 a0_2, .int .i64 a0_3, .slice A0_4 l0_4.length c0_4]] (by rfl) rfl rfl (by (try simp only [List.map_toArray, List.map_cons, List.map_nil]); first | done | rfl | (simp only [List.length_drop, List.length_take]; rfl)) ?_
     with_reducible refine (laws_toMeshFrame.calls k a0_0 a0_1 a0_2 a0_3 _ _ l0_4 t163 t164 t165 t166 t167 _ ?side1 ?side2 A56.1).mono ?_
     (case side1 => repeat (first | exact (Kd.C_below HR0_4.1 HB.1) | (with_reducible refine Kd.C_alloc ?_ _) | (with_reducible refine Kd.C_drewN ?_ _) | (with_reducible refine Kd.C_drew ?_)))
     (case side2 => exact HC0_4.1)
     rintro e w169 ⟨v168, rfl, ho0, hb⟩
     refine ⟨_, rfl, ?_⟩
     have n0_ := Am_ (Kd.R_elder' (by (with_reducible repeat (first | apply rA_ | apply rN_ | apply rD_)); exact HO137.1) (Kd.R_base ho0) hb)
     have n1_ := Am_ (Kd.R_elder' (by (with_reducible repeat (first | apply rA_ | apply rN_ | apply rD_)); exact HO144.1) (Kd.R_base ho0) hb)
     have n2_ := Am_ (Kd.R_elder' (by (with_reducible repeat (first | apply rA_ | apply rN_ | apply rD_)); exact HO152.1) (Kd.R_base ho0) hb)
     have n3_ := Am_ (Kd.R_elder' (by (with_reducible repeat (first | apply rA_ | apply rN_ | apply rD_)); exact HO160.1) (Kd.R_base ho0) hb)
     have n4_ := Am_ (Kd.R_lower (Kd.R_new' (Kd.R_new' (Kd.R_new' (Kd.R_new' ho0 (Kd.R_lt (by (with_reducible repeat (first | apply rA_ | apply rN_ | apply rD_)); exact HO137.1))) (Kd.R_lt (by (with_reducible repeat (first | apply rA_ | apply rN_ | apply rD_)); exact HO144.1))) (Kd.R_lt (by (with_reducible repeat (first | apply rA_ | apply rN_ | apply rD_)); exact HO152.1))) (Kd.R_lt (by (with_reducible repeat (first | apply rA_ | apply rN_ | apply rD_)); exact HO160.1))) (bZ_ (by repeat (first | (with_reducible first | exact HB.1 | apply bA_ | apply bN_ | apply bD_ | refine bS_ ?_ GE127.1 | refine bS_ ?_ GE128.1 | refine bS_ ?_ GE153.1 | refine bS_ ?_ GE161.1) | exact HB.1))))
     have n5_ := Am_ (kB_ (g := gb127) (o := .cells #[.int .i64 a0_0, .int .i64 a0_1, .int .i64 a0_2, .int .i64 a0_3, .slice A0_4 l0_4.length c0_4] 41 (0, 0)) (by (with_reducible repeat (first | refine kN_ ?_ _ | refine kD_ ?_ | refine kA_ ?_ _)); exact BK127.1) hb)
     have n6_ := Am_ (kB_ (g := gb128) (o := .cells #[.int .i64 a1_0, .int .i64 a1_1, .int .i64 a1_2, .int .i64 a1_3, .slice A1_4 l1_4.length c1_4] 41 (0, 0)) (by (with_reducible repeat (first | refine kN_ ?_ _ | refine kD_ ?_ | refine kA_ ?_ _)); exact BK128.1) hb)
     have n7_ := Am_ (kB_ (g := gb153) (o := .cells #[.int .i64 t146, .int .i64 t147, .int .i64 t148, .int .i64 t149, .slice Ao157 t150.length co157] 44 (0, 0)) (by (with_reducible repeat (first | refine kN_ ?_ _ | refine kD_ ?_ | refine kA_ ?_ _)); exact BK153.1) hb)
     have n8_ := Am_ (kB_ (g := gb161) (o := .cells #[.int .i64 t154, .int .i64 t155, .int .i64 t156, .int .i64 t157, .slice Ao165 t158.length co165] 44 (0, 0)) (by (with_reducible repeat (first | refine kN_ ?_ _ | refine kD_ ?_ | refine kA_ ?_ _)); exact BK161.1) hb)
     have n9_ := Am_ (bT_ (by repeat (first | (with_reducible first | exact HB.1 | apply bA_ | apply bN_ | apply bD_ | refine bS_ ?_ GE127.1 | refine bS_ ?_ GE128.1 | refine bS_ ?_ GE153.1 | refine bS_ ?_ GE161.1) | exact HB.1)) hb)
     clear HO137
     clear HO144
     clear HO152
     clear HO160
     clear BK127
     clear BK128
     clear BK153
     clear BK161
     clear HB
     have HO137 := n0_
     have HO144 := n1_
     have HO152 := n2_
     have HO160 := n3_
     have HO169 := n4_
     have BK127 := n5_
     have BK128 := n6_
     have BK153 := n7_
     have BK161 := n8_
     have HB := n9_
     clear n0_ n1_ n2_ n3_ n4_ n5_ n6_ n7_ n8_ n9_
     (try clear hb)
     (try clear hb2)
     (try clear hk)
     (try clear hi)
     (try clear ho0)
     obtain ⟨Ao170, co170, eo170⟩ := Kd.R_slice HO169.1
     (first | subst eo170 | (injection eo170 with f1_ f2_ f3_; have f4_ := f1_.symm; have f5_ := f3_.symm; clear f1_ f2_ f3_; subst f4_; subst f5_))
     refine hK.out _ _ ⟨kC_ BK153.1 0, kC_ BK153.1 1, kC_ BK153.1 2, kC_ BK153.1 3, kC_ BK153.1 4, kC_ BK127.1 0, kC_ BK127.1 1, kC_ BK127.1 2, kC_ BK127.1 3, kC_ BK127.1 4⟩ (fun hHeld => ?_)
     clear hK K
     refine norm_ (a' := ?_) ?_ ?_
     rotate_left
     ·show Act.put _ (some 37) _ = _
      simp only [Act.put, List.setIfInBounds_toArray, List.set_cons_zero, List.set_cons_succ, i64_w, i32_w]
      rfl
     refine one_ (i := 3) (N := some 38) #[true, true, true, true, false] rfl rfl (by kernel_rfl) (by decide) (fun K hK => ?_)
     refine goes_ Try.func30 (by kernel_rfl) rfl #[.agg #[.int .i64 t146, .int .i64 t147, .int .i64 t148, .int .i64 t149, .slice Ao157 t150.length co157], .agg #[.int .i64 t163, .int .i64 t164, .int .i64 t165, .int .i64 t166, .slice Ao170 t167.length co170]] (by rfl) rfl rfl (by (try simp only [List.map_toArray, List.map_cons, List.map_nil]); first | done | rfl | (simp only [List.length_drop, List.length_take]; rfl)) ?_
     with_reducible refine (laws_eqMeshFrame.calls k t146 t147 t148 t149 _ _ t150 t163 t164 t165 t166 _ _ t167 false _ ?side1 ?side2 ?side3 ?side4 A57.1).mono ?_
     (case side1 => repeat (first | exact (Kd.R_reads' HO152.1).2.2 | (with_reducible refine Kd.C_alloc ?_ _) | (with_reducible refine Kd.C_drewN ?_ _) | (with_reducible refine Kd.C_drew ?_)))
     (case side2 => exact (Kd.R_reads' HO152.1).2.1)
     (case side3 => repeat (first | exact (Kd.R_reads' HO169.1).2.2 | (with_reducible refine Kd.C_alloc ?_ _) | (with_reducible refine Kd.C_drewN ?_ _) | (with_reducible refine Kd.C_drew ?_)))
     (case side4 => exact (Kd.R_reads' HO169.1).2.1)
     rintro e w171 ⟨rfl, hb⟩
     refine ⟨_, rfl, ?_⟩
     have n0_ := Am_ (Kd.R_below (by (with_reducible repeat (first | apply rA_ | apply rN_ | apply rD_)); exact HO137.1) hb)
     have n1_ := Am_ (Kd.R_below (by (with_reducible repeat (first | apply rA_ | apply rN_ | apply rD_)); exact HO144.1) hb)
     have n2_ := Am_ (Kd.R_below (by (with_reducible repeat (first | apply rA_ | apply rN_ | apply rD_)); exact HO152.1) hb)
     have n3_ := Am_ (Kd.R_below (by (with_reducible repeat (first | apply rA_ | apply rN_ | apply rD_)); exact HO160.1) hb)
     have n4_ := Am_ (Kd.R_below (by (with_reducible repeat (first | apply rA_ | apply rN_ | apply rD_)); exact HO169.1) hb)
     have n5_ := Am_ (kB_ (g := gb127) (o := .cells #[.int .i64 a0_0, .int .i64 a0_1, .int .i64 a0_2, .int .i64 a0_3, .slice A0_4 l0_4.length c0_4] 41 (0, 0)) (by (with_reducible repeat (first | refine kN_ ?_ _ | refine kD_ ?_ | refine kA_ ?_ _)); exact BK127.1) hb)
     have n6_ := Am_ (kB_ (g := gb128) (o := .cells #[.int .i64 a1_0, .int .i64 a1_1, .int .i64 a1_2, .int .i64 a1_3, .slice A1_4 l1_4.length c1_4] 41 (0, 0)) (by (with_reducible repeat (first | refine kN_ ?_ _ | refine kD_ ?_ | refine kA_ ?_ _)); exact BK128.1) hb)
     have n7_ := Am_ (kB_ (g := gb153) (o := .cells #[.int .i64 t146, .int .i64 t147, .int .i64 t148, .int .i64 t149, .slice Ao157 t150.length co157] 44 (0, 0)) (by (with_reducible repeat (first | refine kN_ ?_ _ | refine kD_ ?_ | refine kA_ ?_ _)); exact BK153.1) hb)
     have n8_ := Am_ (kB_ (g := gb161) (o := .cells #[.int .i64 t154, .int .i64 t155, .int .i64 t156, .int .i64 t157, .slice Ao165 t158.length co165] 44 (0, 0)) (by (with_reducible repeat (first | refine kN_ ?_ _ | refine kD_ ?_ | refine kA_ ?_ _)); exact BK161.1) hb)
     have n9_ := Am_ (bT_ (by repeat (first | (with_reducible first | exact HB.1 | apply bA_ | apply bN_ | apply bD_ | refine bS_ ?_ GE127.1 | refine bS_ ?_ GE128.1 | refine bS_ ?_ GE153.1 | refine bS_ ?_ GE161.1) | exact HB.1)) hb)
     clear HO137
     clear HO144
     clear HO152
     clear HO160
     clear HO169
     clear BK127
     clear BK128
     clear BK153
     clear BK161
     clear HB
     have HO137 := n0_
     have HO144 := n1_
     have HO152 := n2_
     have HO160 := n3_
     have HO169 := n4_
     have BK127 := n5_
     have BK128 := n6_
     have BK153 := n7_
     have BK161 := n8_
     have HB := n9_
     clear n0_ n1_ n2_ n3_ n4_ n5_ n6_ n7_ n8_ n9_
     (try clear hb)
     (try clear hb2)
     (try clear hk)
     (try clear hi)
     refine hK.out _ _ ⟨kC_ BK153.1 0, kC_ BK153.1 1, kC_ BK153.1 2, kC_ BK153.1 3, kC_ BK153.1 4, kC_ BK127.1 0, kC_ BK127.1 1, kC_ BK127.1 2, kC_ BK127.1 3, kC_ BK127.1 4⟩ (fun hHeld => ?_)
     clear hK K
     refine norm_ (a' := ?_) ?_ ?_
     rotate_left
     ·show Act.put _ (some 38) _ = _
      simp only [Act.put, List.setIfInBounds_toArray, List.set_cons_zero, List.set_cons_succ, i64_w, i32_w]
      rfl
     refine pure_ (i := 4) (N := some 39) (v := ?_) (a' := ?_) #[true, true, true, true, true] rfl rfl (by kernel_rfl) (fun _ _ _ h => h) (Or.inl ⟨by rfl, ?_⟩) ?_ ?_
     rotate_left
     ·intro w'
      go_simp
      with_reducible rfl
     rotate_left
     ·simp only [Act.put, List.setIfInBounds_toArray, List.set_cons_zero, List.set_cons_succ, i64_w, i32_w]
      rfl
     refine done_ (by kernel_rfl) ?_
     try go_wp2
     go_ret
     exact ⟨by first | rfl | (simp [errW_none, errW_some] <;> rfl) | (simp [*, errW_none, errW_some] <;> rfl), by repeat (first | (with_reducible first | exact HB.1 | apply bA_ | apply bN_ | apply bD_ | refine bS_ ?_ GE127.1 | refine bS_ ?_ GE128.1 | refine bS_ ?_ GE153.1 | refine bS_ ?_ GE161.1) | exact HB.1)⟩

end Go.Proofs.Ytkenlkkefmefoaa.XFnExactEqualMeshFrames
