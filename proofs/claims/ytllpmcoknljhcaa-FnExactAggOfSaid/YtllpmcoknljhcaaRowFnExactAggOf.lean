/- For every input the law FnExactAggOf answers true, and each argument reads afterwards as it read before; no condition. -/
import Derived.Test.YtllpmcoknljhcaaKinFnExactAggOf
import Derived.Test.YtllpmcoknljhcaaPureFnExactAggOf
import Derived.Test.YtllpmcoknljhcaaRows
import Derived.Test.YtllpmcoknljhcaaHead
import Derived.WalkKit
import Derived.ProofKit
import Derived.OpenShut
import Derived.ShutString
import Derived.ChangeOld
import Derived.Below
import Derived.SizedLaws
import Derived.Carry
namespace Go.Proofs.Ytllpmcoknljhcaa.fnExactAggOf
open Go.ChangeShapes Go.WideShapes Go.ChangeAt Go.RowKit Go.Proofs.YtllpmcoknljhcaaO Go.Proofs.YtllpmcoknljhcaaW.PrintWords Go.Proofs.Ytllpmcoknljhcaa.XFnExactAggOf
open Go.ChangeMaps (open_string shut_string)
set_option linter.unusedVariables false
theorem own : ownKnob Try.prog.godebug = none := by kernel_rfl
theorem laidOut : laidOutB Try.prog = true := by kernel_rfl
set_option maxRecDepth 100000 in
theorem lifted (os : Os) (started : os.Started) (H : Type) (enc : TypeId × Value → H) :
    ReturnsInHanded {} Try.checked os 15 .any (Rows.fnExactAggOfSpec.pre6 enc Try.prog Try.f15 Rows.fnExactAggOfRow.domain false) (Rows.fnExactAggOfSpec.post enc Try.prog Try.f15 false true false false) := by
  refine returnsInHanded_of_change_sized (C := Try.checked) own started (by kernel_rfl) Try.func15
    (ChangeSpec.witness6 (enc := enc) (C := Try.checked) false ⟨#[], #[.slice none 0 0], []⟩ 12 (by kernel_rfl) (by kernel_rfl) (by kernel_rfl) (by kernel_rfl)) ?_
  intro W base args ds gs before hval0 hW hcnd hsz0 _
  have hsz : (DataW.weightsEach Try.prog (Try.f15.params.toList ++ Rows.fnExactAggOfSpec.plain.varTypes Try.prog) (ds ++ gs)).all (· ≤ reachBytes) = true := hsz0
  have hval : ∀ (j : Nat) t v, Try.f15.params[j]? = some t → args[j]? = some v → Value.okWide Try.prog W .any base t v := hval0
  have hW' := hW
  obtain ⟨p, q, hA0, hV, rfl, hfz, hnd⟩ := hW
  have hA : DataW.TrodAll enc Try.prog W 0 (fun _ => true) true Try.f15.params.toList args.toList ds p := hA0
  rw [Try.params15] at hA hval hsz
  obtain ⟨v0, vs0, d0, ds0, p0, q0, hargs, rfl, rfl, h0, r0⟩ := trodAll_cons hA
  obtain ⟨rfl, rfl, rfl⟩ := trodAll_nil r0
  obtain rfl : args = #[v0] := by cases args; simp_all
  obtain ⟨rfl, rfl⟩ := trodVars_none hV
  obtain ⟨A0, n0, c0, rfl⟩ := okWide_slice Try.underlying29 (hval 0 29 v0 rfl rfl)
  have k0 := h0
  have lt0 : ∀ x ∈ p0, x.block < W.heap.size := by obtain ⟨m, hm⟩ := k0; exact DataW.trod_lt m _ _ _ hm
  obtain ⟨l0, hK0, ok0⟩ := opn_arg opnA0 hsz (j := 0) (t := 29) rfl rfl h0
  obtain ⟨B0, d0_, e0, hc0, hr0⟩ := hK0
  obtain ⟨rfl, rfl, rfl⟩ : A0 = B0 ∧ n0 = l0.length ∧ c0 = d0_ := by simpa [Value.cells] using e0
  clear hA0 hval0 hsz0 hsz
  obtain ⟨k, h⟩ := Pure.FnExactAggOf l0 ok0
  refine (laws_FnExactAggOf.calls k _ _ l0 true W hr0 hc0 h).mono fun e W' ⟨he, bel0⟩ => ?_
  have bel : Below W.heap.size W W' := bel0
  subst he
  exact ⟨_, rfl, _, _, _, [], _, [], hW', trodAll_mk1 (shut_bool Try.underlying4 _), (trodAll_cons_mk (Below.trod laidOut (by kernel_rfl) (of_decide_eq_true (by kernel_rfl)) k0 bel lt0) trodAll_mk0), rfl, bel.frame _, fun h => by cases h⟩
theorem closed : joinedFacts Try.pinned.checked.prog 15 Try.f15 Rows.fnExactAggOfSpec Rows.fnExactAggOfRow = true := by
  unfold joinedFacts
  rw [Go.Proofs.YtllpmcoknljhcaaO.mayEnter, Go.Proofs.YtllpmcoknljhcaaO.liftsFinal, Go.Proofs.YtllpmcoknljhcaaO.make_]
  kernel_rfl
theorem inst_ : Try.f15.isInstance Try.pinned.checked.prog Rows.fnExactAggOfRow.origin Rows.fnExactAggOfRow.targs := of_decide_eq_true (by kernel_rfl)
theorem named_ : Try.pinned.checked.prog.funcNamed Rows.fnExactAggOfRow.func = some 15 := by kernel_rfl
theorem wrap_ : Try.f15.isWrapper Try.pinned.checked.prog Rows.fnExactAggOfRow.wrapper Rows.fnExactAggOfRow.mainSum := by unfold Func.isWrapper; first | (rw [if_pos (by decide +kernel)]; kernel_rfl) | (rw [if_neg (by decide +kernel)]; exact ⟨rfl, rfl⟩)
theorem over : Rows.fnExactAggOfRow.holds Try.pinned (OpenSpec.ofChange Rows.fnExactAggOfSpec) :=
  OpenClaim.holds_of_wide 15 Try.f15 rfl rfl rfl rfl rfl rfl rfl ⟨rfl, rfl, rfl, rfl, rfl⟩ rfl rfl rfl rfl rfl named_ Try.func15 closed
    inst_ wrap_
    (fun os started H enc _ => lifted os started H enc)
theorem proved : Rows.FnExactAggOfSaid := over
#print axioms proved
end Go.Proofs.Ytllpmcoknljhcaa.fnExactAggOf
namespace Go.Proofs.Ytllpmcoknljhcaa
/-- The row, under a short name, for the claim. -/
theorem fnExactAggOf_holds : Rows.FnExactAggOfSaid := fnExactAggOf.proved
end Go.Proofs.Ytllpmcoknljhcaa
