/- The pure law of FnExactNewIngester: what the printed functions compute answers true for every input of the kinds and sizes that the statement gives. -/
import Derived.Test.YtllpmcoknljhcaaKinFnExactNewIngester
namespace Go.Proofs.Ytllpmcoknljhcaa.Pure
open Go.RowKit Go.Proofs.YtllpmcoknljhcaaW.PrintWords Go.Proofs.YtllpmcoknljhcaaW.PrintLast Go.Proofs.Ytllpmcoknljhcaa.XFnExactNewIngester
set_option linter.unusedSimpArgs false
set_option linter.unusedVariables false

-- BODY
theorem within_eq (a b c : Int) : impl_within.f a b c = some (decide (b ≤ a) && decide (a ≤ c)) := by
  unfold impl_within.f; by_cases h : b ≤ a <;> simp [h]
theorem in_eq (a b c : Int) : spec_l01In.f a b c = some (decide (b ≤ a) && decide (a ≤ c)) := by
  unfold spec_l01In.f; by_cases h : b ≤ a <;> simp [h]
theorem FnExactNewIngester : laws_FnExactNewIngester.Pure := by
  intro a _
  refine ⟨6, ?_⟩
  have e : impl_NewIngester.f a = spec_NewIngester.f a := by
    unfold impl_NewIngester.f spec_NewIngester.f impl_isId.f
    simp only [within_eq, in_eq, Option.bind_some]
  have hs : ∃ x c, spec_NewIngester.f a = some (x, 0, 0, 0, ([] : List S137), false, c) := by
    unfold spec_NewIngester.f spec_l01In.f
    by_cases h : 0 ≤ a
    · by_cases h2 : a ≤ 9
      · exact ⟨a, 0, by simp [h, h2]⟩
      · exact ⟨0, 4, by simp [h, h2]⟩
    · exact ⟨0, 4, by simp [h]⟩
  obtain ⟨x, c, hx⟩ := hs
  simp [laws_FnExactNewIngester.f, laws_FnExactNewIngester.j0, laws_FnExactNewIngester.j1, e, hx, laws_eqIngester.f, laws_eqSampleS.f, laws_eqSampleS.l0, laws_markIngester.f, laws_markSampleS.f, laws_markSampleS.l0, laws_heldIngester.f, laws_heldSampleS.f, laws_heldSampleS.l0]

end Go.Proofs.Ytllpmcoknljhcaa.Pure
