/- FnExactMetricBetween: the pure statement: the functions that the law computes answer true. Conditions: none. -/
import Derived.Test.YtohniomkenkdmaaOFnExactMetricBetween
import Derived.Test.YtohniomkenkdmaaPL
namespace Go.Proofs.Ytohniomkenkdmaa.Pure
open Go Go.RowKit Go.Proofs.Ytohniomkenkdmaa.XFnExactMetricBetween Go.Proofs.YtohniomkenkdmaaW.PrintWords Go.Proofs.YtohniomkenkdmaaW.PrintLast Go.Proofs.YtohniomkenkdmaaW.PrintMore Go.Proofs.Ytohniomkenkdmaa.Open Go.Proofs.Ytohniomkenkdmaa.OFnExactMetricBetween Go.Proofs.Ytohniomkenkdmaa.PL
set_option linter.unusedVariables false
set_option linter.unusedSimpArgs false
theorem szMeshLink (xs : List S167) (a : Int) (ha : 0 ≤ a ∧ a ≤ 1048576) (hm : xs.length ≤ maxLen) : ∃ t, laws_szMeshLinkS.f xs a = some t ∧ t ≤ 1048576 ∧ (0 ≤ t → (xs.length : Int) ≤ a) := by
  unfold maxLen at hm
  unfold laws_szMeshLinkS.f
  rw [wrap_id (by omega) (by omega)]
  split
  · exact ⟨_, rfl, by omega, fun h => absurd h (by omega)⟩
  · exact ⟨_, rfl, by omega, fun h => by omega⟩
theorem rd167 {xs : List S167} {i : Nat} (h : i < xs.length) : rd_T167 xs (i : Int) = xs[i] := getD_nat h
theorem rdset167 {xs : List S167} {v : S167} {i : Nat} (h : i < xs.length) : rd_T167 (xs.set i v) (i : Int) = v := getD_set h
theorem rdrange167 {n : Nat} {g : Nat → S167} {i : Nat} (h : i < n) : rd_T167 ((List.range n).map g) (i : Int) = g i := getD_range h
theorem rd142 {xs : List S142} {i : Nat} (h : i < xs.length) : rd_T142 xs (i : Int) = xs[i] := getD_nat h
theorem rdset142 {xs : List S142} {v : S142} {i : Nat} (h : i < xs.length) : rd_T142 (xs.set i v) (i : Int) = v := getD_set h
theorem rdrange142 {n : Nat} {g : Nat → S142} {i : Nat} (h : i < n) : rd_T142 ((List.range n).map g) (i : Int) = g i := getD_range h
def cvMeshLink (x : S167) : S142 := ⟨x.f0, x.f1, x.f2, x.f3⟩
theorem toMeshLinkS (xs : List S167) (hl : xs.length ≤ 1048576) : Ev (fun k => laws_toMeshLinkS.f k xs) (xs.map cvMeshLink) := by
  refine ev_congr (g' := fun k => laws_toMeshLinkS.l0 k xs (List.replicate xs.length z142) 0) (fun k => ?_) ?_
  · unfold laws_toMeshLinkS.f
    rw [if_pos (by omega), if_pos (by omega), Int.toNat_natCast]
  · refine loopMap xs cvMeshLink z142 (fun k ys i => laws_toMeshLinkS.l0 k xs ys i) 0 ?_ ?_
    · intro i h ys k _ hy
      simp only [laws_toMeshLinkS.l0, laws_toMeshLink.f, Option.bind_some]
      rw [if_pos (by omega), if_pos (by omega), if_pos (by omega), rd167 h, wrap_succ (by omega), Int.toNat_natCast]
      rfl
    · intro ys k _
      simp only [laws_toMeshLinkS.l0]
      rw [if_neg (by omega)]
theorem eqMeshLinkS (xs : List S142) (hl : xs.length ≤ 4194304) : Ev (fun k => laws_eqMeshLinkS.f k xs xs) true := by
  refine ev_congr (g' := fun k => laws_eqMeshLinkS.l0 k xs xs 0) (fun k => ?_) ?_
  · unfold laws_eqMeshLinkS.f
    rw [if_pos rfl]
  · refine run_loop 1 (fun k i => laws_eqMeshLinkS.l0 k xs xs (i : Int)) xs.length true 0 ?_ ?_
    · intro i h k _
      simp only [laws_eqMeshLinkS.l0, laws_eqMeshLink.f, if_true, Option.bind_some]
      rw [if_pos (by omega), if_pos (by omega), if_pos (by omega), wrap_succ (by omega)]
    · intro k _
      simp only [laws_eqMeshLinkS.l0]
      rw [if_neg (by omega)]
theorem implIn (a b c : Int) : impl_InRange.f a b c = some (decide (b ≤ a ∧ a ≤ c)) := by
  unfold impl_InRange.f
  by_cases h : b ≤ a <;> simp [h]

def cd (a b : Int) : Int := if 0 ≤ a ∧ a ≤ 1000000000000 ∧ 1 ≤ b ∧ b ≤ 1000000000000 then wrap64 (Int.tdiv (wrap64 ((wrap64 (a + b)) - 1)) b) else 0
theorem implCd (a b : Int) : impl_CeilDiv.f a b = some (cd a b) := by
  unfold impl_CeilDiv.f cd
  simp only [implIn, Option.bind_some, decide_eq_true_eq]
  by_cases h1 : 0 ≤ a ∧ a ≤ 1000000000000
  · by_cases h2 : 1 ≤ b ∧ b ≤ 1000000000000
    · rw [if_pos h1, if_pos h2, if_neg (by omega), if_pos ⟨h1.1, h1.2, h2.1, h2.2⟩]
    · rw [if_pos h1, if_neg h2, if_neg (fun h => h2 ⟨h.2.2.1, h.2.2.2⟩)]
  · rw [if_neg h1, if_neg (fun h => h1 ⟨h.1, h.2.1⟩)]
/-- An exchange of 20 bytes, in slots. -/
def exs (r : Int) : Int := if r = 0 then 7 else if r = 1 then 5 else if r = 2 then 4 else 3
theorem implEx (r : Int) (h : 0 ≤ r ∧ r ≤ 3) (k : Nat) : impl_ExchangeSlots.f (k + 1) r 20 false = some (exs r) := by
  have hr : r = 0 ∨ r = 1 ∨ r = 2 ∨ r = 3 := by omega
  unfold impl_ExchangeSlots.f impl_FrameSlots.f impl_IsValidRateIndex.f
  simp only [implIn, Option.bind_some, impl_FrameSlots.j0, implCd, impl_BytesPerSlot.f]
  rcases hr with rfl | rfl | rfl | rfl <;> decide +kernel
def lm (r l : Int) : Int := if (0 ≤ r ∧ r ≤ 3) ∧ 0 ≤ l ∧ l ≤ 99 then cd (wrap64 (100 * exs r)) (wrap64 (100 - l)) else -1
theorem implLM (a b r l : Int) (k : Nat) : impl_LinkMetric.f (k + 2) a b r l = some (lm r l) := by
  unfold impl_LinkMetric.f impl_IsValidRateIndex.f lm
  simp only [implIn, Option.bind_some, decide_eq_true_eq]
  by_cases h1 : 0 ≤ r ∧ r ≤ 3
  · rw [if_pos h1]
    by_cases h2 : 0 ≤ l ∧ l ≤ 99
    · rw [if_pos ⟨h1, h2⟩]
      simp only [h2, and_self, decide_true, Bool.not_true, impl_LinkMetric.j0, Bool.false_eq_true, if_false, implEx r h1, implCd, Option.bind_some]
    · rw [if_neg (fun h => h2 h.2)]
      simp only [h2, decide_false, Bool.not_false, impl_LinkMetric.j0, if_true]
  · rw [if_neg h1, if_neg (fun h => h1 h.1)]
    simp only [impl_LinkMetric.j0, if_true]
def mbStep (a b : Int) (_ : Nat) (_ : Unit) (x : S142) : Unit ⊕ Int := if (x.f0 = a ∧ x.f1 = b) ∨ (x.f0 = b ∧ x.f1 = a) then .inr (lm x.f2 x.f3) else .inl ()
/-- The metric of the first link between two nodes, or -1. -/
def mb (xs : List S142) (a b : Int) : Int := foldE (mbStep a b) (fun _ => -1) xs 0 ()
theorem implMB (n : Int) (xs : List S142) (a b : Int) (hl : xs.length ≤ 4194304) : Ev (fun k => impl_MetricBetween.f k n xs a b) (mb xs a b) := by
  refine loopE 1 xs (mbStep a b) (fun _ => -1) (fun k _ i => impl_MetricBetween.l0 k a b xs (xs.length : Int) i) 2 (fun _ _ => True) ?_ ?_ ?_ () trivial
  · intro i h s s' k _ _ hs
    unfold mbStep at hs
    split at hs
    · cases hs
    · rename_i hc
      refine ⟨?_, trivial⟩
      simp only [impl_MetricBetween.l0]
      rw [if_pos (by omega), if_pos (by omega), if_pos (by omega), rd142 h, wrap_succ (by omega)]
      by_cases c0 : xs[i].f0 = a <;> by_cases c1 : xs[i].f1 = b <;> by_cases c2 : xs[i].f0 = b <;> by_cases c3 : xs[i].f1 = a <;> first | (exfalso; exact hc (by first | exact .inl ⟨c0, c1⟩ | exact .inr ⟨c2, c3⟩)) | (repeat (first | rw [if_pos c0] | rw [if_neg c0] | rw [if_pos c1] | rw [if_neg c1] | rw [if_pos c2] | rw [if_neg c2] | rw [if_pos c3] | rw [if_neg c3]))
  · intro i h s r k hk _ hs
    obtain ⟨k, rfl⟩ : ∃ q, k = q + 2 := ⟨k - 2, by omega⟩
    unfold mbStep at hs
    split at hs
    · rename_i hc
      cases hs
      simp only [impl_MetricBetween.l0, implLM, Option.bind_some]
      rw [if_pos (by omega), if_pos (by omega), if_pos (by omega), rd142 h]
      by_cases c0 : xs[i].f0 = a <;> by_cases c1 : xs[i].f1 = b <;> by_cases c2 : xs[i].f0 = b <;> by_cases c3 : xs[i].f1 = a <;> first | (exfalso; rcases hc with ⟨p, q⟩ | ⟨p, q⟩ <;> first | exact c0 p | exact c1 q | exact c2 p | exact c3 q) | (repeat (first | rw [if_pos c0] | rw [if_neg c0] | rw [if_pos c1] | rw [if_neg c1] | rw [if_pos c2] | rw [if_neg c2] | rw [if_pos c3] | rw [if_neg c3]))
    · cases hs
  · intro s k _ _
    simp only [impl_MetricBetween.l0]
    rw [if_neg (by omega)]
theorem specIn (a b c : Int) : spec_l1In.f a b c = some (decide (b ≤ a ∧ a ≤ c)) := by
  unfold spec_l1In.f
  by_cases h : b ≤ a <;> simp [h]

theorem specCd (a b : Int) : spec_CeilDiv.f a b = some (cd a b) := by
  unfold spec_CeilDiv.f cd
  simp only [specIn, Option.bind_some, decide_eq_true_eq]
  by_cases h1 : 0 ≤ a ∧ a ≤ 1000000000000
  · by_cases h2 : 1 ≤ b ∧ b ≤ 1000000000000
    · rw [if_pos h1, if_pos h2, if_neg (by omega), if_pos ⟨h1.1, h1.2, h2.1, h2.2⟩]
    · rw [if_pos h1, if_neg h2, if_neg (fun h => h2 ⟨h.2.2.1, h.2.2.2⟩)]
  · rw [if_neg h1, if_neg (fun h => h1 ⟨h.1, h.2.1⟩)]
theorem specEx (r : Int) (h : 0 ≤ r ∧ r ≤ 3) (k : Nat) : spec_ExchangeSlots.f (k + 1) r 20 false = some (exs r) := by
  have hr : r = 0 ∨ r = 1 ∨ r = 2 ∨ r = 3 := by omega
  unfold spec_ExchangeSlots.f spec_FrameSlots.f
  simp only [spec_IsValidRateIndex.f, specIn, Option.bind_some, spec_FrameSlots.j0, specCd, spec_BytesPerSlot.f]
  rcases hr with rfl | rfl | rfl | rfl <;> decide +kernel
theorem specLM (a b r l : Int) (k : Nat) : spec_LinkMetric.f (k + 2) a b r l = some (lm r l) := by
  unfold spec_LinkMetric.f spec_IsValidRateIndex.f lm
  simp only [specIn, Option.bind_some, decide_eq_true_eq]
  by_cases h1 : 0 ≤ r ∧ r ≤ 3
  · rw [if_pos h1]
    by_cases h2 : 0 ≤ l ∧ l ≤ 99
    · rw [if_pos ⟨h1, h2⟩]
      simp only [h2, and_self, decide_true, Bool.not_true, spec_LinkMetric.j0, Bool.false_eq_true, if_false, specEx r h1, specCd, Option.bind_some]
    · rw [if_neg (fun h => h2 h.2)]
      simp only [h2, decide_false, Bool.not_false, spec_LinkMetric.j0, if_true]
  · rw [if_neg h1, if_neg (fun h => h1 h.1)]
    simp only [spec_LinkMetric.j0, if_true]

theorem specMB (n : Int) (xs : List S142) (a b : Int) (hl : xs.length ≤ 4194304) : Ev (fun k => spec_MetricBetween.f k n xs a b) (mb xs a b) := by
  refine loopE 1 xs (mbStep a b) (fun _ => -1) (fun k _ i => spec_MetricBetween.l0 k a b i n xs) 2 (fun _ _ => True) ?_ ?_ ?_ () trivial
  · intro i h s s' k _ _ hs
    unfold mbStep at hs
    split at hs
    · cases hs
    · rename_i hc
      refine ⟨?_, trivial⟩
      simp only [spec_MetricBetween.l0]
      rw [if_pos (by omega), if_pos (by omega), rd142 h, wrap_succ (by omega)]
      by_cases c0 : xs[i].f0 = a <;> by_cases c1 : xs[i].f1 = b <;> by_cases c2 : xs[i].f0 = b <;> by_cases c3 : xs[i].f1 = a <;> first | (exfalso; exact hc (by first | exact .inl ⟨c0, c1⟩ | exact .inr ⟨c2, c3⟩)) | (repeat (first | rw [if_pos c0] | rw [if_neg c0] | rw [if_pos c1] | rw [if_neg c1] | rw [if_pos c2] | rw [if_neg c2] | rw [if_pos c3] | rw [if_neg c3]))
  · intro i h s r k hk _ hs
    obtain ⟨k, rfl⟩ : ∃ q, k = q + 2 := ⟨k - 2, by omega⟩
    unfold mbStep at hs
    split at hs
    · rename_i hc
      cases hs
      simp only [spec_MetricBetween.l0, specLM, Option.bind_some]
      rw [if_pos (by omega), if_pos (by omega), rd142 h]
      by_cases c0 : xs[i].f0 = a <;> by_cases c1 : xs[i].f1 = b <;> by_cases c2 : xs[i].f0 = b <;> by_cases c3 : xs[i].f1 = a <;> first | (exfalso; rcases hc with ⟨p, q⟩ | ⟨p, q⟩ <;> first | exact c0 p | exact c1 q | exact c2 p | exact c3 q) | (repeat (first | rw [if_pos c0] | rw [if_neg c0] | rw [if_pos c1] | rw [if_neg c1] | rw [if_pos c2] | rw [if_neg c2] | rw [if_pos c3] | rw [if_neg c3]))
    · cases hs
  · intro s k _ _
    simp only [spec_MetricBetween.l0]
    rw [if_neg (by omega)]

theorem FnExactMetricBetween : OFnExactMetricBetween.Pure := by
  intro n l a b _ ⟨hm, _⟩ _ _
  obtain ⟨t, ht, _, hl⟩ := szMeshLink l 1048576 (by omega) hm
  have hz : laws_szMesh.f n l 1048576 = some (if t < 0 then -1 else t) := by
    unfold laws_szMesh.f; rw [ht, Option.bind_some]; split <;> rfl
  by_cases hneg : t < 0
  · exact ⟨0, by unfold laws_FnExactMetricBetween.f; rw [hz, if_pos hneg, Option.bind_some, if_pos (by decide)]⟩
  rw [if_neg hneg] at hz
  have hl : l.length ≤ 1048576 := by have := hl (by omega); omega
  obtain ⟨X, hX⟩ : ∃ X, X = l.map cvMeshLink := ⟨_, rfl⟩
  have hXl : X.length ≤ 1048576 := by rw [hX]; simpa using hl
  obtain ⟨K1, e1⟩ := toMeshLinkS l hl
  rw [← hX] at e1
  obtain ⟨K2, e2⟩ := implMB n X a b (by omega)
  obtain ⟨K3, e3⟩ := specMB n X a b (by omega)
  obtain ⟨K4, e4⟩ := eqMeshLinkS X (by omega)
  refine ⟨K1 + K2 + K3 + K4 + 0, ?_⟩
  generalize hk : K1 + K2 + K3 + K4 = k
  have a1_0 := e1 (k) (by omega)
  have a2_0 := e2 (k) (by omega)
  have a3_0 := e3 (k) (by omega)
  have a4_0 := e4 (k) (by omega)
  simp only [laws_FnExactMetricBetween.f, laws_toMesh.f, laws_eqMesh.f, a1_0, a2_0, a3_0, a4_0, hz, hneg, Option.bind_some, if_true, if_false, Bool.not_true, Bool.not_false, Bool.false_eq_true, reduceCtorEq, bne_self_eq_false]

end Go.Proofs.Ytohniomkenkdmaa.Pure
