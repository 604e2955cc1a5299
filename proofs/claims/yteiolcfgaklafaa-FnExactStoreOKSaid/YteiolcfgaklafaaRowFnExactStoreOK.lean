/- For every input the law FnExactStoreOK answers true, and each argument reads afterwards as it read before; no condition. -/
import Derived.Test.YteiolcfgaklafaaKinFnExactStoreOK
import Derived.Test.YteiolcfgaklafaaPureFnExactStoreOK
import Derived.Test.YteiolcfgaklafaaRows
import Derived.Test.YteiolcfgaklafaaHead
import Derived.WalkKit
import Derived.ProofKit
import Derived.OpenShut
import Derived.ShutString
import Derived.ChangeOld
import Derived.Below
import Derived.SizedLaws
import Derived.Carry
namespace Go.Proofs.Yteiolcfgaklafaa.fnExactStoreOK
open Go.ChangeShapes Go.WideShapes Go.ChangeAt Go.RowKit Go.Proofs.YteiolcfgaklafaaO Go.Proofs.YteiolcfgaklafaaW.PrintWords Go.Proofs.Yteiolcfgaklafaa.XFnExactStoreOK
open Go.ChangeMaps (open_string shut_string)
set_option linter.unusedVariables false
theorem own : ownKnob Try.prog.godebug = none := by kernel_rfl
theorem laidOut : laidOutB Try.prog = true := by kernel_rfl
set_option maxRecDepth 100000 in
theorem lifted (os : Os) (started : os.Started) (H : Type) (enc : TypeId × Value → H) :
    ReturnsInHanded {} Try.checked os 4 .any (Rows.fnExactStoreOKSpec.pre6 enc Try.prog Try.f4 Rows.fnExactStoreOKRow.domain false) (Rows.fnExactStoreOKSpec.post enc Try.prog Try.f4 false true false false) := by
  refine returnsInHanded_of_change_sized (C := Try.checked) own started (by kernel_rfl) Try.func4
    (ChangeSpec.witness6 (enc := enc) (C := Try.checked) false ⟨#[], #[.agg #[.slice none 0 0, .int .i64 0]], []⟩ 12 (by kernel_rfl) (by kernel_rfl) (by kernel_rfl) (by kernel_rfl)) ?_
  intro W base args ds gs before hval0 hW hcnd hsz0 _
  have hsz : (DataW.weightsEach Try.prog (Try.f4.params.toList ++ Rows.fnExactStoreOKSpec.plain.varTypes Try.prog) (ds ++ gs)).all (· ≤ reachBytes) = true := hsz0
  have hval : ∀ (j : Nat) t v, Try.f4.params[j]? = some t → args[j]? = some v → Value.okWide Try.prog W .any base t v := hval0
  have hW' := hW
  obtain ⟨p, q, hA0, hV, rfl, hfz, hnd⟩ := hW
  have hA : DataW.TrodAll enc Try.prog W 0 (fun _ => true) true Try.f4.params.toList args.toList ds p := hA0
  rw [Try.params4] at hA hval hsz
  obtain ⟨v0, vs0, d0, ds0, p0, q0, hargs, rfl, rfl, h0, r0⟩ := trodAll_cons hA
  obtain ⟨rfl, rfl, rfl⟩ := trodAll_nil r0
  obtain rfl : args = #[v0] := by cases args; simp_all
  obtain ⟨rfl, rfl⟩ := trodVars_none hV
  obtain ⟨cs0, rfl, _⟩ := okWide_struct Try.underlying41 (hval 0 41 v0 rfl rfl)
  have k0 := h0
  have lt0 : ∀ x ∈ p0, x.block < W.heap.size := by obtain ⟨m, hm⟩ := k0; exact DataW.trod_lt m _ _ _ hm
  obtain ⟨x0, hK0, ok0⟩ := opn_arg opnA0 hsz (j := 0) (t := 41) rfl rfl h0
  generalize hL0 : (Value.agg cs0).cells.toList = L0 at hK0
  obtain ⟨l0_0, a0_1⟩ := x0
  obtain ⟨_, _, rfl, ⟨A0_0, c0_0, rfl, hc0_0, hr0_0⟩, rfl⟩ := hK0
  obtain rfl : cs0 = #[.slice A0_0 l0_0.length c0_0, .int .i64 a0_1] := by apply Array.ext'; simpa [Value.cells] using hL0
  clear hL0
  obtain ⟨ok0_0, ok0_1⟩ := ok0
  clear hA0 hval0 hsz0 hsz
  obtain ⟨k, h⟩ := Pure.FnExactStoreOK l0_0 a0_1 ok0_0 ok0_1
  refine (laws_FnExactStoreOK.calls k _ _ l0_0 a0_1 true W hr0_0 hc0_0 h).mono fun e W' ⟨he, bel0⟩ => ?_
  have bel : Below W.heap.size W W' := bel0
  subst he
  exact ⟨_, rfl, _, _, _, [], _, [], hW', trodAll_mk1 (shut_bool Try.underlying4 _), (trodAll_cons_mk (Below.trod laidOut (by kernel_rfl) (of_decide_eq_true (by kernel_rfl)) k0 bel lt0) trodAll_mk0), rfl, bel.frame _, fun h => by cases h⟩
theorem closed : joinedFacts Try.pinned.checked.prog 4 Try.f4 Rows.fnExactStoreOKSpec Rows.fnExactStoreOKRow = true := by
  unfold joinedFacts
  rw [Go.Proofs.YteiolcfgaklafaaO.mayEnter, Go.Proofs.YteiolcfgaklafaaO.liftsFinal, Go.Proofs.YteiolcfgaklafaaO.make_]
  kernel_rfl
theorem inst_ : Try.f4.isInstance Try.pinned.checked.prog Rows.fnExactStoreOKRow.origin Rows.fnExactStoreOKRow.targs := of_decide_eq_true (by kernel_rfl)
theorem named_ : Try.pinned.checked.prog.funcNamed Rows.fnExactStoreOKRow.func = some 4 := by kernel_rfl
theorem wrap_ : Try.f4.isWrapper Try.pinned.checked.prog Rows.fnExactStoreOKRow.wrapper Rows.fnExactStoreOKRow.mainSum := by unfold Func.isWrapper; first | (rw [if_pos (by decide +kernel)]; kernel_rfl) | (rw [if_neg (by decide +kernel)]; exact ⟨rfl, rfl⟩)
theorem over : Rows.fnExactStoreOKRow.holds Try.pinned (OpenSpec.ofChange Rows.fnExactStoreOKSpec) :=
  OpenClaim.holds_of_wide 4 Try.f4 rfl rfl rfl rfl rfl rfl rfl ⟨rfl, rfl, rfl, rfl, rfl⟩ rfl rfl rfl rfl rfl named_ Try.func4 closed
    inst_ wrap_
    (fun os started H enc _ => lifted os started H enc)
theorem proved : Rows.FnExactStoreOKSaid := over
#print axioms proved
end Go.Proofs.Yteiolcfgaklafaa.fnExactStoreOK
namespace Go.Proofs.Yteiolcfgaklafaa
/-- The row, under a short name, for the claim. -/
theorem fnExactStoreOK_holds : Rows.FnExactStoreOKSaid := fnExactStoreOK.proved
end Go.Proofs.Yteiolcfgaklafaa
