/- FnExactAirParams: the pure statement: the functions that the law computes answer true. Conditions: none. -/
import Derived.Test.YtkenlkkefmefoaaXFnExactAirParamsx1
import Derived.Test.YtkenlkkefmefoaaPL
namespace Go.Proofs.Ytkenlkkefmefoaa.Pure
open Go Go.RowKit Go.Proofs.Ytkenlkkefmefoaa.XFnExactAirParams Go.Proofs.YtkenlkkefmefoaaW.PrintWords Go.Proofs.YtkenlkkefmefoaaW.PrintLast Go.Proofs.YtkenlkkefmefoaaW.PrintMore Go.Proofs.Ytkenlkkefmefoaa.PL
set_option linter.unusedVariables false
set_option linter.unusedSimpArgs false
theorem FnExactAirParams : laws_FnExactAirParams.Pure := by
  intro a _
  unfold laws_FnExactAirParams.f spec_AirParams.f impl_AirParams.f spec_ParamsFor.f impl_ParamsFor.f
  by_cases h0 : a = 0
  · subst h0; rfl
  · by_cases h1 : a = 1
    · subst h1; rfl
    · by_cases h2 : a = 2
      · subst h2; rfl
      · by_cases h3 : a = 3
        · subst h3; rfl
        · rw [if_neg h0, if_neg h1, if_neg h2, if_neg h3]; rfl

end Go.Proofs.Ytkenlkkefmefoaa.Pure
