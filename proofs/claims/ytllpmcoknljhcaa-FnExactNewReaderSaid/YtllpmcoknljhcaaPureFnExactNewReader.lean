/- The pure law of FnExactNewReader: what the printed functions compute answers true for every input of the kinds and sizes that the statement gives. -/
import Derived.Test.YtllpmcoknljhcaaKinFnExactNewReader
namespace Go.Proofs.Ytllpmcoknljhcaa.Pure
open Go.RowKit Go.Proofs.YtllpmcoknljhcaaW.PrintWords Go.Proofs.YtllpmcoknljhcaaW.PrintLast Go.Proofs.Ytllpmcoknljhcaa.XFnExactNewReader
set_option linter.unusedSimpArgs false
set_option linter.unusedVariables false

-- BODY
theorem within_eq (a b c : Int) : impl_within.f a b c = some (decide (b ≤ a) && decide (a ≤ c)) := by
  unfold impl_within.f; by_cases h : b ≤ a <;> simp [h]
theorem in_eq (a b c : Int) : spec_l01In.f a b c = some (decide (b ≤ a) && decide (a ≤ c)) := by
  unfold spec_l01In.f; by_cases h : b ≤ a <;> simp [h]
theorem FnExactNewReader : laws_FnExactNewReader.Pure := by
  intro a _
  refine ⟨6, ?_⟩
  have e : impl_NewReader.f a = spec_NewReader.f a := by
    unfold impl_NewReader.f spec_NewReader.f impl_isId.f
    simp only [within_eq, in_eq, Option.bind_some]
  have hs : ∃ x c, spec_NewReader.f a = some (x, 0, 0, 0, 0, 0, 0, ([] : List S168), 0, 0, 0, 0, 0, 0, c) := by
    unfold spec_NewReader.f spec_l01In.f
    by_cases h : 0 ≤ a
    · by_cases h2 : a ≤ 9
      · exact ⟨a, 0, by simp [h, h2]⟩
      · exact ⟨0, 4, by simp [h, h2]⟩
    · exact ⟨0, 4, by simp [h]⟩
  obtain ⟨x, c, hx⟩ := hs
  simp [laws_FnExactNewReader.f, laws_FnExactNewReader.j0, laws_FnExactNewReader.j1, e, hx, laws_eqReader.f, laws_eqAgg.f, laws_eqEntryS.f, laws_eqEntryS.l0, laws_markReader.f, laws_markEntryS.f, laws_markEntryS.l0, laws_heldReader.f, laws_heldEntryS.f, laws_heldEntryS.l0]

end Go.Proofs.Ytllpmcoknljhcaa.Pure
