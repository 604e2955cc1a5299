/- For every input the law FnAlign answers true, and each argument reads afterwards as it read before; no condition. -/
import Derived.Test.YtodmgklagfabaaaKinFnAlign
import Derived.Test.YtodmgklagfabaaaPureFnAlign
import Derived.Test.YtodmgklagfabaaaRows
import Derived.Test.YtodmgklagfabaaaHead
import Derived.WalkKit
import Derived.ProofKit
import Derived.OpenShut
import Derived.ShutString
import Derived.ChangeOld
import Derived.Below
import Derived.SizedLaws
import Derived.Carry
namespace Go.Proofs.Ytodmgklagfabaaa.fnAlign
open Go.ChangeShapes Go.WideShapes Go.ChangeAt Go.RowKit Go.Proofs.YtodmgklagfabaaaO Go.Proofs.YtodmgklagfabaaaW.PrintWords Go.Proofs.Ytodmgklagfabaaa.XFnAlign
open Go.ChangeMaps (open_string shut_string)
set_option linter.unusedVariables false
theorem own : ownKnob Try.prog.godebug = none := by kernel_rfl
theorem laidOut : laidOutB Try.prog = true := by kernel_rfl
set_option maxRecDepth 100000 in
theorem lifted (os : Os) (started : os.Started) (H : Type) (enc : TypeId × Value → H) :
    ReturnsInHanded {} Try.checked os 13 .any (Rows.fnAlignSpec.pre6 enc Try.prog Try.f13 Rows.fnAlignRow.domain false) (Rows.fnAlignSpec.post enc Try.prog Try.f13 false true false false) := by
  refine returnsInHanded_of_change_sized (C := Try.checked) own started (by kernel_rfl) Try.func13
    (ChangeSpec.witness6 (enc := enc) (C := Try.checked) false ⟨#[], #[.slice none 0 0], []⟩ 12 (by kernel_rfl) (by kernel_rfl) (by kernel_rfl) (by kernel_rfl)) ?_
  intro W base args ds gs before hval0 hW hcnd hsz0 _
  have hsz : (DataW.weightsEach Try.prog (Try.f13.params.toList ++ Rows.fnAlignSpec.plain.varTypes Try.prog) (ds ++ gs)).all (· ≤ reachBytes) = true := hsz0
  have hval : ∀ (j : Nat) t v, Try.f13.params[j]? = some t → args[j]? = some v → Value.okWide Try.prog W .any base t v := hval0
  have hW' := hW
  obtain ⟨p, q, hA0, hV, rfl, hfz, hnd⟩ := hW
  have hA : DataW.TrodAll enc Try.prog W 0 (fun _ => true) true Try.f13.params.toList args.toList ds p := hA0
  rw [Try.params13] at hA hval hsz
  obtain ⟨v0, vs0, d0, ds0, p0, q0, hargs, rfl, rfl, h0, r0⟩ := trodAll_cons hA
  obtain ⟨rfl, rfl, rfl⟩ := trodAll_nil r0
  obtain rfl : args = #[v0] := by cases args; simp_all
  obtain ⟨rfl, rfl⟩ := trodVars_none hV
  obtain ⟨A0, n0, c0, rfl⟩ := okWide_slice Try.underlying43 (hval 0 43 v0 rfl rfl)
  have k0 := h0
  have lt0 : ∀ x ∈ p0, x.block < W.heap.size := by obtain ⟨m, hm⟩ := k0; exact DataW.trod_lt m _ _ _ hm
  obtain ⟨l0, hK0, ok0⟩ := opn_arg opnA0 hsz (j := 0) (t := 43) rfl rfl h0
  obtain ⟨B0, d0_, e0, hc0, hr0⟩ := hK0
  obtain ⟨rfl, rfl, rfl⟩ : A0 = B0 ∧ n0 = l0.length ∧ c0 = d0_ := by simpa [Value.cells] using e0
  clear hA0 hval0 hsz0 hsz
  obtain ⟨k, h⟩ := Pure.FnAlign l0 ok0
  refine (laws_FnAlign.calls k _ _ l0 true W hr0 hc0 h).mono fun e W' ⟨he, bel0⟩ => ?_
  have bel : Below W.heap.size W W' := bel0
  subst he
  exact ⟨_, rfl, _, _, _, [], _, [], hW', trodAll_mk1 (shut_bool Try.underlying4 _), (trodAll_cons_mk (Below.trod laidOut (by kernel_rfl) (of_decide_eq_true (by kernel_rfl)) k0 bel lt0) trodAll_mk0), rfl, bel.frame _, fun h => by cases h⟩
theorem closed : joinedFacts Try.pinned.checked.prog 13 Try.f13 Rows.fnAlignSpec Rows.fnAlignRow = true := by
  unfold joinedFacts
  rw [Go.Proofs.YtodmgklagfabaaaO.mayEnter, Go.Proofs.YtodmgklagfabaaaO.liftsFinal, Go.Proofs.YtodmgklagfabaaaO.make_]
  kernel_rfl
theorem inst_ : Try.f13.isInstance Try.pinned.checked.prog Rows.fnAlignRow.origin Rows.fnAlignRow.targs := of_decide_eq_true (by kernel_rfl)
theorem named_ : Try.pinned.checked.prog.funcNamed Rows.fnAlignRow.func = some 13 := by kernel_rfl
theorem wrap_ : Try.f13.isWrapper Try.pinned.checked.prog Rows.fnAlignRow.wrapper Rows.fnAlignRow.mainSum := by unfold Func.isWrapper; first | (rw [if_pos (by decide +kernel)]; kernel_rfl) | (rw [if_neg (by decide +kernel)]; exact ⟨rfl, rfl⟩)
theorem over : Rows.fnAlignRow.holds Try.pinned (OpenSpec.ofChange Rows.fnAlignSpec) :=
  OpenClaim.holds_of_wide 13 Try.f13 rfl rfl rfl rfl rfl rfl rfl ⟨rfl, rfl, rfl, rfl, rfl⟩ rfl rfl rfl rfl rfl named_ Try.func13 closed
    inst_ wrap_
    (fun os started H enc _ => lifted os started H enc)
theorem proved : Rows.FnAlignSaid := over
#print axioms proved
end Go.Proofs.Ytodmgklagfabaaa.fnAlign
namespace Go.Proofs.Ytodmgklagfabaaa
/-- The row, under a short name, for the claim. -/
theorem fnAlign_holds : Rows.FnAlignSaid := fnAlign.proved
end Go.Proofs.Ytodmgklagfabaaa
