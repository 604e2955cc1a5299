/- The pure law of FnExactCodeWord: what the printed functions compute answers true for every input of the kinds and sizes that the statement gives. -/
import Derived.Test.YtodmgklagfabaaaPFnExactCodeWordx1
namespace Go.Proofs.Ytodmgklagfabaaa.Pure
open Go.RowKit Go.Proofs.Ytodmgklagfabaaa.PFnExactCodeWord Go.Proofs.YtodmgklagfabaaaW.PrintWords Go.Proofs.YtodmgklagfabaaaW.PrintLast

-- BODY
theorem FnExactCodeWord : laws_FnExactCodeWord.Pure := by
  intro a0 h
  simp only [laws_FnExactCodeWord.f, spec_CodeWord.f, impl_CodeWord.f, impl_isCode.f, impl_within.f, impl_codeWords.f, Option.bind_some]
  by_cases h0 : a0 < 0
  · have h1 : ¬ (0 ≤ a0) := by omega
    simp [h0, h1]
  · have h1 : 0 ≤ a0 := by omega
    by_cases h2 : a0 ≥ 20
    · have h3 : ¬ (a0 ≤ 19) := by omega
      simp [h0, h1, h2, h3]
    · have h3 : a0 ≤ 19 := by omega
      have h4 : a0 < 20 := by omega
      simp [h0, h1, h2, h3, h4]

end Go.Proofs.Ytodmgklagfabaaa.Pure
