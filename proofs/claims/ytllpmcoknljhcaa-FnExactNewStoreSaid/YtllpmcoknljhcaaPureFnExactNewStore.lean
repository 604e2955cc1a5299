/- The pure law of FnExactNewStore: what the printed functions compute answers true for every input of the kinds and sizes that the statement gives. -/
import Derived.Test.YtllpmcoknljhcaaKinFnExactNewStore
namespace Go.Proofs.Ytllpmcoknljhcaa.Pure
open Go.RowKit Go.Proofs.YtllpmcoknljhcaaW.PrintWords Go.Proofs.YtllpmcoknljhcaaW.PrintLast Go.Proofs.Ytllpmcoknljhcaa.XFnExactNewStore

-- BODY
theorem FnExactNewStore : laws_FnExactNewStore.Pure := by
  refine ⟨5, ?_⟩
  simp [laws_FnExactNewStore.f, spec_NewStore.f, impl_NewStore.f, laws_eqStore.f, laws_eqObjectS.f, laws_eqObjectS.l0, laws_markStore.f, laws_markObjectS.f, laws_markObjectS.l0, laws_heldStore.f, laws_heldObjectS.f, laws_heldObjectS.l0]

end Go.Proofs.Ytllpmcoknljhcaa.Pure
