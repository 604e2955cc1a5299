/- The pure law of FnExactKeepOf: what the printed functions compute answers true for every input of the kinds and sizes that the statement gives. -/
import Derived.Test.YtodmgklagfabaaaPFnExactKeepOfx1
namespace Go.Proofs.Ytodmgklagfabaaa.Pure
open Go.RowKit Go.Proofs.Ytodmgklagfabaaa.PFnExactKeepOf Go.Proofs.YtodmgklagfabaaaW.PrintWords Go.Proofs.YtodmgklagfabaaaW.PrintLast

-- BODY
theorem FnExactKeepOf : laws_FnExactKeepOf.Pure := by
  intro a0 _
  have e : impl_KeepOf.f a0 = spec_KeepOf.f a0 := rfl
  have hs : ∃ r, spec_KeepOf.f a0 = some r := by
    simp only [spec_KeepOf.f, spec_l04Tier.f, spec_l01In.f, spec_l04Keep.f, Option.bind_some]
    by_cases h0 : 0 ≤ a0
    · by_cases h1 : a0 ≤ 2
      · have : a0 = 0 ∨ a0 = 1 ∨ a0 = 2 := by omega
        rcases this with rfl | rfl | rfl <;> simp [rd]
      · simp [h0, h1]
    · simp [h0]
  obtain ⟨⟨r1, r2⟩, hr⟩ := hs
  simp [laws_FnExactKeepOf.f, e, hr]

end Go.Proofs.Ytodmgklagfabaaa.Pure
