/- The pure law of FnExactNewWorker: what the printed functions compute answers true for every input of the kinds and sizes that the statement gives. -/
import Derived.Test.YteiolcfgaklafaaKinFnExactNewWorker
namespace Go.Proofs.Yteiolcfgaklafaa.Pure
open Go.RowKit Go.Proofs.YteiolcfgaklafaaW.PrintWords Go.Proofs.YteiolcfgaklafaaW.PrintLast Go.Proofs.Yteiolcfgaklafaa.XFnExactNewWorker
set_option linter.unusedSimpArgs false
set_option linter.unusedVariables false

-- BODY
theorem within_eq (a b c : Int) : impl_within.f a b c = some (decide (b ≤ a) && decide (a ≤ c)) := by
  unfold impl_within.f; by_cases h : b ≤ a <;> simp [h]
theorem in_eq (a b c : Int) : spec_l01In.f a b c = some (decide (b ≤ a) && decide (a ≤ c)) := by
  unfold spec_l01In.f; by_cases h : b ≤ a <;> simp [h]
theorem FnExactNewWorker : laws_FnExactNewWorker.Pure := by
  intro a _
  refine ⟨9, ?_⟩
  have e : impl_NewWorker.f a = spec_NewWorker.f a := by
    unfold impl_NewWorker.f spec_NewWorker.f impl_isId.f
    simp only [within_eq, in_eq, Option.bind_some]
  have hs : ∃ x c, spec_NewWorker.f a = some (x, 0, 0, 0, 0, 0, 0, 0, (⟨#[]⟩ : ByteArray), ([] : List S120), 0, 0, 0, 0, 0, 0, c) := by
    unfold spec_NewWorker.f spec_l01In.f
    by_cases h : 0 ≤ a
    · by_cases h2 : a ≤ 9
      · exact ⟨a, 0, by simp [h, h2]⟩
      · exact ⟨0, 4, by simp [h, h2]⟩
    · exact ⟨0, 4, by simp [h]⟩
  obtain ⟨x, c, hx⟩ := hs
  simp [laws_FnExactNewWorker.f, laws_FnExactNewWorker.j0, e, hx, laws_eqWorker.f, laws_eqRecord.f, laws_eqAgg.f, laws_eqEntryS.f, laws_eqEntryS.l0, laws_markWorker.f, laws_markEntryS.f, laws_markEntryS.l0, laws_heldWorker.f, laws_heldEntryS.f, laws_heldEntryS.l0]

end Go.Proofs.Yteiolcfgaklafaa.Pure
