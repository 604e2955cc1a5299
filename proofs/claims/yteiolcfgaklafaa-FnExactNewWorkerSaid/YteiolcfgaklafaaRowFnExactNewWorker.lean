/- For every input the law FnExactNewWorker answers true, and each argument reads afterwards as it read before; no condition. -/
import Derived.Test.YteiolcfgaklafaaKinFnExactNewWorker
import Derived.Test.YteiolcfgaklafaaPureFnExactNewWorker
import Derived.Test.YteiolcfgaklafaaRows
import Derived.Test.YteiolcfgaklafaaHead
import Derived.WalkKit
import Derived.ProofKit
import Derived.OpenShut
import Derived.ShutString
import Derived.ChangeOld
import Derived.Below
import Derived.SizedLaws
import Derived.Carry
namespace Go.Proofs.Yteiolcfgaklafaa.fnExactNewWorker
open Go.ChangeShapes Go.WideShapes Go.ChangeAt Go.RowKit Go.Proofs.YteiolcfgaklafaaO Go.Proofs.YteiolcfgaklafaaW.PrintWords Go.Proofs.Yteiolcfgaklafaa.XFnExactNewWorker
open Go.ChangeMaps (open_string shut_string)
set_option linter.unusedVariables false
theorem own : ownKnob Try.prog.godebug = none := by kernel_rfl
theorem laidOut : laidOutB Try.prog = true := by kernel_rfl
set_option maxRecDepth 100000 in
theorem lifted (os : Os) (started : os.Started) (H : Type) (enc : TypeId × Value → H) :
    ReturnsInHanded {} Try.checked os 6 .any (Rows.fnExactNewWorkerSpec.pre6 enc Try.prog Try.f6 Rows.fnExactNewWorkerRow.domain false) (Rows.fnExactNewWorkerSpec.post enc Try.prog Try.f6 false true false false) := by
  refine returnsInHanded_of_change_sized (C := Try.checked) own started (by kernel_rfl) Try.func6
    (ChangeSpec.witness6 (enc := enc) (C := Try.checked) false ⟨#[], #[.int .i64 0], []⟩ 12 (by kernel_rfl) (by kernel_rfl) (by kernel_rfl) (by kernel_rfl)) ?_
  intro W base args ds gs before hval0 hW hcnd hsz0 _
  have hsz : (DataW.weightsEach Try.prog (Try.f6.params.toList ++ Rows.fnExactNewWorkerSpec.plain.varTypes Try.prog) (ds ++ gs)).all (· ≤ reachBytes) = true := hsz0
  have hval : ∀ (j : Nat) t v, Try.f6.params[j]? = some t → args[j]? = some v → Value.okWide Try.prog W .any base t v := hval0
  have hW' := hW
  obtain ⟨p, q, hA0, hV, rfl, hfz, hnd⟩ := hW
  have hA : DataW.TrodAll enc Try.prog W 0 (fun _ => true) true Try.f6.params.toList args.toList ds p := hA0
  rw [Try.params6] at hA hval hsz
  obtain ⟨v0, vs0, d0, ds0, p0, q0, hargs, rfl, rfl, h0, r0⟩ := trodAll_cons hA
  obtain ⟨rfl, rfl, rfl⟩ := trodAll_nil r0
  obtain rfl : args = #[v0] := by cases args; simp_all
  obtain ⟨rfl, rfl⟩ := trodVars_none hV
  obtain ⟨a0, rfl, rfl, rfl, ok0⟩ := open_int Try.underlying3 (hval 0 3 v0 rfl rfl) h0
  clear hA0 hval0 hsz0 hsz
  obtain ⟨k, h⟩ := Pure.FnExactNewWorker a0 ok0
  refine (laws_FnExactNewWorker.calls k a0 true W  h).mono fun e W' ⟨he, bel0⟩ => ?_
  have bel : Below W.heap.size W W' := bel0
  subst he
  exact ⟨_, rfl, _, _, _, [], _, [], hW', trodAll_mk1 (shut_bool Try.underlying4 _), (trodAll_cons_mk (shut_int Try.underlying3 ok0) trodAll_mk0), rfl, bel.frame _, fun h => by cases h⟩
theorem closed : joinedFacts Try.pinned.checked.prog 6 Try.f6 Rows.fnExactNewWorkerSpec Rows.fnExactNewWorkerRow = true := by
  unfold joinedFacts
  rw [Go.Proofs.YteiolcfgaklafaaO.mayEnter, Go.Proofs.YteiolcfgaklafaaO.liftsFinal, Go.Proofs.YteiolcfgaklafaaO.make_]
  kernel_rfl
theorem inst_ : Try.f6.isInstance Try.pinned.checked.prog Rows.fnExactNewWorkerRow.origin Rows.fnExactNewWorkerRow.targs := of_decide_eq_true (by kernel_rfl)
theorem named_ : Try.pinned.checked.prog.funcNamed Rows.fnExactNewWorkerRow.func = some 6 := by kernel_rfl
theorem wrap_ : Try.f6.isWrapper Try.pinned.checked.prog Rows.fnExactNewWorkerRow.wrapper Rows.fnExactNewWorkerRow.mainSum := by unfold Func.isWrapper; first | (rw [if_pos (by decide +kernel)]; kernel_rfl) | (rw [if_neg (by decide +kernel)]; exact ⟨rfl, rfl⟩)
theorem over : Rows.fnExactNewWorkerRow.holds Try.pinned (OpenSpec.ofChange Rows.fnExactNewWorkerSpec) :=
  OpenClaim.holds_of_wide 6 Try.f6 rfl rfl rfl rfl rfl rfl rfl ⟨rfl, rfl, rfl, rfl, rfl⟩ rfl rfl rfl rfl rfl named_ Try.func6 closed
    inst_ wrap_
    (fun os started H enc _ => lifted os started H enc)
theorem proved : Rows.FnExactNewWorkerSaid := over
#print axioms proved
end Go.Proofs.Yteiolcfgaklafaa.fnExactNewWorker
namespace Go.Proofs.Yteiolcfgaklafaa
/-- The row, under a short name, for the claim. -/
theorem fnExactNewWorker_holds : Rows.FnExactNewWorkerSaid := fnExactNewWorker.proved
end Go.Proofs.Yteiolcfgaklafaa
