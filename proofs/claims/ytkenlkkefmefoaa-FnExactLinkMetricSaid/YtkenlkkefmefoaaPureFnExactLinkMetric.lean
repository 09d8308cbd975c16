/- FnExactLinkMetric: the pure statement: the functions that the law computes answer true. Conditions: none. -/
import Derived.Test.YtkenlkkefmefoaaOFnExactLinkMetric
import Derived.Test.YtkenlkkefmefoaaPL
namespace Go.Proofs.Ytkenlkkefmefoaa.Pure
open Go Go.RowKit Go.Proofs.Ytkenlkkefmefoaa.PFnExactLinkMetric Go.Proofs.YtkenlkkefmefoaaW.PrintWords Go.Proofs.YtkenlkkefmefoaaW.PrintLast Go.Proofs.YtkenlkkefmefoaaW.PrintMore Go.Proofs.Ytkenlkkefmefoaa.Open Go.Proofs.Ytkenlkkefmefoaa.OFnExactLinkMetric Go.Proofs.Ytkenlkkefmefoaa.PL
set_option linter.unusedVariables false
set_option linter.unusedSimpArgs false
theorem implIn (a b c : Int) : impl_InRange.f a b c = some (decide (b ≤ a ∧ a ≤ c)) := by
  unfold impl_InRange.f
  by_cases h : b ≤ a <;> simp [h]

def cd (a b : Int) : Int := if 0 ≤ a ∧ a ≤ 1000000000000 ∧ 1 ≤ b ∧ b ≤ 1000000000000 then wrap64 (Int.tdiv (wrap64 ((wrap64 (a + b)) - 1)) b) else 0
theorem implCd (a b : Int) : impl_CeilDiv.f a b = some (cd a b) := by
  unfold impl_CeilDiv.f cd
  simp only [implIn, Option.bind_some, decide_eq_true_eq]
  by_cases h1 : 0 ≤ a ∧ a ≤ 1000000000000
  · by_cases h2 : 1 ≤ b ∧ b ≤ 1000000000000
    · rw [if_pos h1, if_pos h2, if_neg (by omega), if_pos ⟨h1.1, h1.2, h2.1, h2.2⟩]
    · rw [if_pos h1, if_neg h2, if_neg (fun h => h2 ⟨h.2.2.1, h.2.2.2⟩)]
  · rw [if_neg h1, if_neg (fun h => h1 ⟨h.1, h.2.1⟩)]
/-- An exchange of 20 bytes, in slots. -/
def exs (r : Int) : Int := if r = 0 then 7 else if r = 1 then 5 else if r = 2 then 4 else 3
theorem implEx (r : Int) (h : 0 ≤ r ∧ r ≤ 3) (k : Nat) : impl_ExchangeSlots.f (k + 1) r 20 false = some (exs r) := by
  have hr : r = 0 ∨ r = 1 ∨ r = 2 ∨ r = 3 := by omega
  unfold impl_ExchangeSlots.f impl_FrameSlots.f impl_IsValidRateIndex.f
  simp only [implIn, Option.bind_some, impl_FrameSlots.j0, implCd, impl_BytesPerSlot.f]
  rcases hr with rfl | rfl | rfl | rfl <;> decide +kernel
def lm (r l : Int) : Int := if (0 ≤ r ∧ r ≤ 3) ∧ 0 ≤ l ∧ l ≤ 99 then cd (wrap64 (100 * exs r)) (wrap64 (100 - l)) else -1
theorem implLM (a b r l : Int) (k : Nat) : impl_LinkMetric.f (k + 2) a b r l = some (lm r l) := by
  unfold impl_LinkMetric.f impl_IsValidRateIndex.f lm
  simp only [implIn, Option.bind_some, decide_eq_true_eq]
  by_cases h1 : 0 ≤ r ∧ r ≤ 3
  · rw [if_pos h1]
    by_cases h2 : 0 ≤ l ∧ l ≤ 99
    · rw [if_pos ⟨h1, h2⟩]
      simp only [h2, and_self, decide_true, Bool.not_true, impl_LinkMetric.j0, Bool.false_eq_true, if_false, implEx r h1, implCd, Option.bind_some]
    · rw [if_neg (fun h => h2 h.2)]
      simp only [h2, decide_false, Bool.not_false, impl_LinkMetric.j0, if_true]
  · rw [if_neg h1, if_neg (fun h => h1 h.1)]
    simp only [impl_LinkMetric.j0, if_true]
theorem specIn (a b c : Int) : spec_l1In.f a b c = some (decide (b ≤ a ∧ a ≤ c)) := by
  unfold spec_l1In.f
  by_cases h : b ≤ a <;> simp [h]

theorem specCd (a b : Int) : spec_CeilDiv.f a b = some (cd a b) := by
  unfold spec_CeilDiv.f cd
  simp only [specIn, Option.bind_some, decide_eq_true_eq]
  by_cases h1 : 0 ≤ a ∧ a ≤ 1000000000000
  · by_cases h2 : 1 ≤ b ∧ b ≤ 1000000000000
    · rw [if_pos h1, if_pos h2, if_neg (by omega), if_pos ⟨h1.1, h1.2, h2.1, h2.2⟩]
    · rw [if_pos h1, if_neg h2, if_neg (fun h => h2 ⟨h.2.2.1, h.2.2.2⟩)]
  · rw [if_neg h1, if_neg (fun h => h1 ⟨h.1, h.2.1⟩)]
theorem specEx (r : Int) (h : 0 ≤ r ∧ r ≤ 3) (k : Nat) : spec_ExchangeSlots.f (k + 1) r 20 false = some (exs r) := by
  have hr : r = 0 ∨ r = 1 ∨ r = 2 ∨ r = 3 := by omega
  unfold spec_ExchangeSlots.f spec_FrameSlots.f
  simp only [spec_IsValidRateIndex.f, specIn, Option.bind_some, spec_FrameSlots.j0, specCd, spec_BytesPerSlot.f]
  rcases hr with rfl | rfl | rfl | rfl <;> decide +kernel
theorem specLM (a b r l : Int) (k : Nat) : spec_LinkMetric.f (k + 2) a b r l = some (lm r l) := by
  unfold spec_LinkMetric.f spec_IsValidRateIndex.f lm
  simp only [specIn, Option.bind_some, decide_eq_true_eq]
  by_cases h1 : 0 ≤ r ∧ r ≤ 3
  · rw [if_pos h1]
    by_cases h2 : 0 ≤ l ∧ l ≤ 99
    · rw [if_pos ⟨h1, h2⟩]
      simp only [h2, and_self, decide_true, Bool.not_true, spec_LinkMetric.j0, Bool.false_eq_true, if_false, specEx r h1, specCd, Option.bind_some]
    · rw [if_neg (fun h => h2 h.2)]
      simp only [h2, decide_false, Bool.not_false, spec_LinkMetric.j0, if_true]
  · rw [if_neg h1, if_neg (fun h => h1 h.1)]
    simp only [spec_LinkMetric.j0, if_true]

theorem FnExactLinkMetric : OFnExactLinkMetric.Pure := by
  intro a b c d _ _ _ _
  exact ⟨2, by simp only [laws_FnExactLinkMetric.f, laws_toMeshLink.f, Option.bind_some, specLM _ _ _ _ 0, implLM _ _ _ _ 0, if_true]⟩

end Go.Proofs.Ytkenlkkefmefoaa.Pure
