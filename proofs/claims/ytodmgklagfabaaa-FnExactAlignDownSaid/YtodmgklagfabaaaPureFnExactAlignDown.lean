/- The pure law of FnExactAlignDown: what the printed functions compute answers true for every input of the kinds and sizes that the statement gives. -/
import Derived.Test.YtodmgklagfabaaaPFnExactAlignDownx1
namespace Go.Proofs.Ytodmgklagfabaaa.Pure
open Go.RowKit Go.Proofs.Ytodmgklagfabaaa.PFnExactAlignDown Go.Proofs.YtodmgklagfabaaaW.PrintWords Go.Proofs.YtodmgklagfabaaaW.PrintLast

-- BODY
theorem impl_within_eq (a b c : Int) : impl_within.f a b c = spec_l01In.f a b c := rfl
theorem FnExactAlignDown : laws_FnExactAlignDown.Pure := by
  intro a0 a1 _ _
  have e : impl_AlignDown.f a0 a1 = spec_AlignDown.f a0 a1 := rfl
  have hs : ∃ r, spec_AlignDown.f a0 a1 = some r := by
    simp only [spec_AlignDown.f, spec_l04Tier.f, spec_l01In.f, spec_l04Width.f, Option.bind_some]
    by_cases h0 : 0 ≤ a1
    · by_cases h1 : a1 ≤ 2
      · have : a1 = 0 ∨ a1 = 1 ∨ a1 = 2 := by omega
        by_cases h2 : 0 ≤ a0
        · by_cases h3 : a0 ≤ 100000
          · rcases this with rfl | rfl | rfl <;> simp [h2, h3, rd]
          · simp [h0, h1, h2, h3]
        · simp [h0, h1, h2]
      · simp [h0, h1]
    · simp [h0]
  obtain ⟨⟨r1, r2⟩, hr⟩ := hs
  simp [laws_FnExactAlignDown.f, e, hr]

end Go.Proofs.Ytodmgklagfabaaa.Pure
