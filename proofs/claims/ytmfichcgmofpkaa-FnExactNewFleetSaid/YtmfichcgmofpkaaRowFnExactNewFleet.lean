/- For every input the law FnExactNewFleet answers true, and each argument reads afterwards as it read before; no condition. -/
import Derived.Test.YtmfichcgmofpkaaKinFnExactNewFleet
import Derived.Test.YtmfichcgmofpkaaPureFnExactNewFleet
import Derived.Test.YtmfichcgmofpkaaRows
import Derived.Test.YtmfichcgmofpkaaHead
import Derived.WalkKit
import Derived.ProofKit
import Derived.OpenShut
import Derived.ShutString
import Derived.ChangeOld
import Derived.Below
import Derived.SizedLaws
import Derived.Carry
namespace Go.Proofs.Ytmfichcgmofpkaa.fnExactNewFleet
open Go.ChangeShapes Go.WideShapes Go.ChangeAt Go.RowKit Go.Proofs.YtmfichcgmofpkaaO Go.Proofs.YtmfichcgmofpkaaW.PrintWords Go.Proofs.Ytmfichcgmofpkaa.XFnExactNewFleet
open Go.ChangeMaps (open_string shut_string)
set_option linter.unusedVariables false
theorem own : ownKnob Try.prog.godebug = none := by kernel_rfl
theorem laidOut : laidOutB Try.prog = true := by kernel_rfl
set_option maxRecDepth 100000 in
theorem lifted (os : Os) (started : os.Started) (H : Type) (enc : TypeId × Value → H) :
    ReturnsInHanded {} Try.checked os 3 .any (Rows.fnExactNewFleetSpec.pre6 enc Try.prog Try.f3 Rows.fnExactNewFleetRow.domain false) (Rows.fnExactNewFleetSpec.post enc Try.prog Try.f3 false true false false) := by
  refine returnsInHanded_of_change_sized (C := Try.checked) own started (by kernel_rfl) Try.func3
    (ChangeSpec.witness6 (enc := enc) (C := Try.checked) false ⟨#[], #[], []⟩ 12 (by kernel_rfl) (by kernel_rfl) (by kernel_rfl) (by kernel_rfl)) ?_
  intro W base args ds gs before hval0 hW hcnd hsz0 _
  have hsz : (DataW.weightsEach Try.prog (Try.f3.params.toList ++ Rows.fnExactNewFleetSpec.plain.varTypes Try.prog) (ds ++ gs)).all (· ≤ reachBytes) = true := hsz0
  have hval : ∀ (j : Nat) t v, Try.f3.params[j]? = some t → args[j]? = some v → Value.okWide Try.prog W .any base t v := hval0
  have hW' := hW
  obtain ⟨p, q, hA0, hV, rfl, hfz, hnd⟩ := hW
  have hA : DataW.TrodAll enc Try.prog W 0 (fun _ => true) true Try.f3.params.toList args.toList ds p := hA0
  rw [Try.params3] at hA hval hsz
  obtain ⟨rfl, rfl, rfl⟩ := trodAll_none hA
  obtain ⟨rfl, rfl⟩ := trodVars_none hV
  clear hA0 hval0 hsz0 hsz
  obtain ⟨k, h⟩ := Pure.FnExactNewFleet 
  refine (laws_FnExactNewFleet.calls k  true W  h).mono fun e W' ⟨he, bel0⟩ => ?_
  have bel : Below W.heap.size W W' := bel0
  subst he
  exact ⟨_, rfl, _, _, _, [], _, [], hW', trodAll_mk1 (shut_bool Try.underlying4 _), trodAll_mk0, rfl, bel.frame _, fun h => by cases h⟩
theorem closed : joinedFacts Try.pinned.checked.prog 3 Try.f3 Rows.fnExactNewFleetSpec Rows.fnExactNewFleetRow = true := by
  unfold joinedFacts
  rw [Go.Proofs.YtmfichcgmofpkaaO.mayEnter, Go.Proofs.YtmfichcgmofpkaaO.liftsFinal, Go.Proofs.YtmfichcgmofpkaaO.make_]
  kernel_rfl
theorem inst_ : Try.f3.isInstance Try.pinned.checked.prog Rows.fnExactNewFleetRow.origin Rows.fnExactNewFleetRow.targs := of_decide_eq_true (by kernel_rfl)
theorem named_ : Try.pinned.checked.prog.funcNamed Rows.fnExactNewFleetRow.func = some 3 := by kernel_rfl
theorem wrap_ : Try.f3.isWrapper Try.pinned.checked.prog Rows.fnExactNewFleetRow.wrapper Rows.fnExactNewFleetRow.mainSum := by unfold Func.isWrapper; first | (rw [if_pos (by decide +kernel)]; kernel_rfl) | (rw [if_neg (by decide +kernel)]; exact ⟨rfl, rfl⟩)
theorem over : Rows.fnExactNewFleetRow.holds Try.pinned (OpenSpec.ofChange Rows.fnExactNewFleetSpec) :=
  OpenClaim.holds_of_wide 3 Try.f3 rfl rfl rfl rfl rfl rfl rfl ⟨rfl, rfl, rfl, rfl, rfl⟩ rfl rfl rfl rfl rfl named_ Try.func3 closed
    inst_ wrap_
    (fun os started H enc _ => lifted os started H enc)
theorem proved : Rows.FnExactNewFleetSaid := over
#print axioms proved
end Go.Proofs.Ytmfichcgmofpkaa.fnExactNewFleet
namespace Go.Proofs.Ytmfichcgmofpkaa
/-- The row, under a short name, for the claim. -/
theorem fnExactNewFleet_holds : Rows.FnExactNewFleetSaid := fnExactNewFleet.proved
end Go.Proofs.Ytmfichcgmofpkaa
