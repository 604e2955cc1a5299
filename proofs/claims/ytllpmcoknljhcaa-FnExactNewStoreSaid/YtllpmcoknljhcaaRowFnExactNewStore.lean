/- For every input the law FnExactNewStore answers true, and each argument reads afterwards as it read before; no condition. -/
import Derived.Test.YtllpmcoknljhcaaKinFnExactNewStore
import Derived.Test.YtllpmcoknljhcaaPureFnExactNewStore
import Derived.Test.YtllpmcoknljhcaaRows
import Derived.Test.YtllpmcoknljhcaaHead
import Derived.WalkKit
import Derived.ProofKit
import Derived.OpenShut
import Derived.ShutString
import Derived.ChangeOld
import Derived.Below
import Derived.SizedLaws
import Derived.Carry
namespace Go.Proofs.Ytllpmcoknljhcaa.fnExactNewStore
open Go.ChangeShapes Go.WideShapes Go.ChangeAt Go.RowKit Go.Proofs.YtllpmcoknljhcaaO Go.Proofs.YtllpmcoknljhcaaW.PrintWords Go.Proofs.Ytllpmcoknljhcaa.XFnExactNewStore
open Go.ChangeMaps (open_string shut_string)
set_option linter.unusedVariables false
theorem own : ownKnob Try.prog.godebug = none := by kernel_rfl
theorem laidOut : laidOutB Try.prog = true := by kernel_rfl
set_option maxRecDepth 100000 in
theorem lifted (os : Os) (started : os.Started) (H : Type) (enc : TypeId × Value → H) :
    ReturnsInHanded {} Try.checked os 5 .any (Rows.fnExactNewStoreSpec.pre6 enc Try.prog Try.f5 Rows.fnExactNewStoreRow.domain false) (Rows.fnExactNewStoreSpec.post enc Try.prog Try.f5 false true false false) := by
  refine returnsInHanded_of_change_sized (C := Try.checked) own started (by kernel_rfl) Try.func5
    (ChangeSpec.witness6 (enc := enc) (C := Try.checked) false ⟨#[], #[], []⟩ 12 (by kernel_rfl) (by kernel_rfl) (by kernel_rfl) (by kernel_rfl)) ?_
  intro W base args ds gs before hval0 hW hcnd hsz0 _
  have hsz : (DataW.weightsEach Try.prog (Try.f5.params.toList ++ Rows.fnExactNewStoreSpec.plain.varTypes Try.prog) (ds ++ gs)).all (· ≤ reachBytes) = true := hsz0
  have hval : ∀ (j : Nat) t v, Try.f5.params[j]? = some t → args[j]? = some v → Value.okWide Try.prog W .any base t v := hval0
  have hW' := hW
  obtain ⟨p, q, hA0, hV, rfl, hfz, hnd⟩ := hW
  have hA : DataW.TrodAll enc Try.prog W 0 (fun _ => true) true Try.f5.params.toList args.toList ds p := hA0
  rw [Try.params5] at hA hval hsz
  obtain ⟨rfl, rfl, rfl⟩ := trodAll_none hA
  obtain ⟨rfl, rfl⟩ := trodVars_none hV
  clear hA0 hval0 hsz0 hsz
  obtain ⟨k, h⟩ := Pure.FnExactNewStore 
  refine (laws_FnExactNewStore.calls k  true W  h).mono fun e W' ⟨he, bel0⟩ => ?_
  have bel : Below W.heap.size W W' := bel0
  subst he
  exact ⟨_, rfl, _, _, _, [], _, [], hW', trodAll_mk1 (shut_bool Try.underlying4 _), trodAll_mk0, rfl, bel.frame _, fun h => by cases h⟩
theorem closed : joinedFacts Try.pinned.checked.prog 5 Try.f5 Rows.fnExactNewStoreSpec Rows.fnExactNewStoreRow = true := by
  unfold joinedFacts
  rw [Go.Proofs.YtllpmcoknljhcaaO.mayEnter, Go.Proofs.YtllpmcoknljhcaaO.liftsFinal, Go.Proofs.YtllpmcoknljhcaaO.make_]
  kernel_rfl
theorem inst_ : Try.f5.isInstance Try.pinned.checked.prog Rows.fnExactNewStoreRow.origin Rows.fnExactNewStoreRow.targs := of_decide_eq_true (by kernel_rfl)
theorem named_ : Try.pinned.checked.prog.funcNamed Rows.fnExactNewStoreRow.func = some 5 := by kernel_rfl
theorem wrap_ : Try.f5.isWrapper Try.pinned.checked.prog Rows.fnExactNewStoreRow.wrapper Rows.fnExactNewStoreRow.mainSum := by unfold Func.isWrapper; first | (rw [if_pos (by decide +kernel)]; kernel_rfl) | (rw [if_neg (by decide +kernel)]; exact ⟨rfl, rfl⟩)
theorem over : Rows.fnExactNewStoreRow.holds Try.pinned (OpenSpec.ofChange Rows.fnExactNewStoreSpec) :=
  OpenClaim.holds_of_wide 5 Try.f5 rfl rfl rfl rfl rfl rfl rfl ⟨rfl, rfl, rfl, rfl, rfl⟩ rfl rfl rfl rfl rfl named_ Try.func5 closed
    inst_ wrap_
    (fun os started H enc _ => lifted os started H enc)
theorem proved : Rows.FnExactNewStoreSaid := over
#print axioms proved
end Go.Proofs.Ytllpmcoknljhcaa.fnExactNewStore
namespace Go.Proofs.Ytllpmcoknljhcaa
/-- The row, under a short name, for the claim. -/
theorem fnExactNewStore_holds : Rows.FnExactNewStoreSaid := fnExactNewStore.proved
end Go.Proofs.Ytllpmcoknljhcaa
