/- The pure law of FnExactLeaseOK: what the printed functions compute answers true for every input of the kinds and sizes that the statement gives. -/
import Derived.Test.YtodmgklagfabaaaKinFnExactLeaseOK
namespace Go.Proofs.Ytodmgklagfabaaa.Pure
open Go.RowKit Go.Proofs.YtodmgklagfabaaaW.PrintWords Go.Proofs.YtodmgklagfabaaaW.PrintLast Go.Proofs.Ytodmgklagfabaaa.XFnExactLeaseOK

-- BODY
theorem FnExactLeaseOK : laws_FnExactLeaseOK.Pure := by
  intro a b c _ _ _
  have e : ∀ x y z, impl_within.f x y z = spec_l01In.f x y z := fun _ _ _ => rfl
  have t : ∀ x y z, ∃ r, spec_l01In.f x y z = some r := fun x y z => by unfold spec_l01In.f; split <;> exact ⟨_, rfl⟩
  obtain ⟨r1, h1⟩ := t a 1 999999
  obtain ⟨r2, h2⟩ := t b 0 9
  obtain ⟨r3, h3⟩ := t c 0 200000
  simp only [laws_FnExactLeaseOK.f, laws_toLease.f, spec_LeaseOK.f, impl_LeaseOK.f, impl_isToken.f, impl_isId.f, impl_isUntil.f, e, h1, h2, h3, Option.bind_some]
  cases r1 <;> cases r2 <;> cases r3 <;> simp

end Go.Proofs.Ytodmgklagfabaaa.Pure
