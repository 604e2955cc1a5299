/- The pure law of FnExactWidthOf: what the printed functions compute answers true for every input of the kinds and sizes that the statement gives. -/
import Derived.Test.YtodmgklagfabaaaPFnExactWidthOfx1
namespace Go.Proofs.Ytodmgklagfabaaa.Pure
open Go.RowKit Go.Proofs.Ytodmgklagfabaaa.PFnExactWidthOf Go.Proofs.YtodmgklagfabaaaW.PrintWords Go.Proofs.YtodmgklagfabaaaW.PrintLast

-- BODY
theorem FnExactWidthOf : laws_FnExactWidthOf.Pure := by
  intro a0 _
  have e : impl_WidthOf.f a0 = spec_WidthOf.f a0 := rfl
  have hs : ∃ r, spec_WidthOf.f a0 = some r := by
    simp only [spec_WidthOf.f, spec_l04Tier.f, spec_l01In.f, spec_l04Width.f, Option.bind_some]
    by_cases h0 : 0 ≤ a0
    · by_cases h1 : a0 ≤ 2
      · have : a0 = 0 ∨ a0 = 1 ∨ a0 = 2 := by omega
        rcases this with rfl | rfl | rfl <;> simp [rd]
      · simp [h0, h1]
    · simp [h0]
  obtain ⟨⟨r1, r2⟩, hr⟩ := hs
  simp [laws_FnExactWidthOf.f, e, hr]

end Go.Proofs.Ytodmgklagfabaaa.Pure
