/- For every input the law FnExactSameStore answers true, and each argument reads afterwards as it read before; no condition. -/
import Derived.Test.YtllpmcoknljhcaaKinFnExactSameStore
import Derived.Test.YtllpmcoknljhcaaPureFnExactSameStore
import Derived.Test.YtllpmcoknljhcaaRows
import Derived.Test.YtllpmcoknljhcaaHead
import Derived.WalkKit
import Derived.ProofKit
import Derived.OpenShut
import Derived.ShutString
import Derived.ChangeOld
import Derived.Below
import Derived.SizedLaws
import Derived.Carry
namespace Go.Proofs.Ytllpmcoknljhcaa.fnExactSameStore
open Go.ChangeShapes Go.WideShapes Go.ChangeAt Go.RowKit Go.Proofs.YtllpmcoknljhcaaO Go.Proofs.YtllpmcoknljhcaaW.PrintWords Go.Proofs.Ytllpmcoknljhcaa.XFnExactSameStore
open Go.ChangeMaps (open_string shut_string)
set_option linter.unusedVariables false
theorem own : ownKnob Try.prog.godebug = none := by kernel_rfl
theorem laidOut : laidOutB Try.prog = true := by kernel_rfl
set_option maxRecDepth 100000 in
theorem lifted (os : Os) (started : os.Started) (H : Type) (enc : TypeId × Value → H) :
    ReturnsInHanded {} Try.checked os 9 .any (Rows.fnExactSameStoreSpec.pre6 enc Try.prog Try.f9 Rows.fnExactSameStoreRow.domain false) (Rows.fnExactSameStoreSpec.post enc Try.prog Try.f9 false true false false) := by
  refine returnsInHanded_of_change_sized (C := Try.checked) own started (by kernel_rfl) Try.func9
    (ChangeSpec.witness6 (enc := enc) (C := Try.checked) false ⟨#[], #[.agg #[.slice none 0 0, .int .i64 0], .agg #[.slice none 0 0, .int .i64 0]], []⟩ 12 (by kernel_rfl) (by kernel_rfl) (by kernel_rfl) (by kernel_rfl)) ?_
  intro W base args ds gs before hval0 hW hcnd hsz0 _
  have hsz : (DataW.weightsEach Try.prog (Try.f9.params.toList ++ Rows.fnExactSameStoreSpec.plain.varTypes Try.prog) (ds ++ gs)).all (· ≤ reachBytes) = true := hsz0
  have hval : ∀ (j : Nat) t v, Try.f9.params[j]? = some t → args[j]? = some v → Value.okWide Try.prog W .any base t v := hval0
  have hW' := hW
  obtain ⟨p, q, hA0, hV, rfl, hfz, hnd⟩ := hW
  have hA : DataW.TrodAll enc Try.prog W 0 (fun _ => true) true Try.f9.params.toList args.toList ds p := hA0
  rw [Try.params9] at hA hval hsz
  obtain ⟨v0, vs0, d0, ds0, p0, q0, hargs, rfl, rfl, h0, r0⟩ := trodAll_cons hA
  obtain ⟨v1, vs1, d1, ds1, p1, q1, rfl, rfl, rfl, h1, r1⟩ := trodAll_cons r0
  obtain ⟨rfl, rfl, rfl⟩ := trodAll_nil r1
  obtain rfl : args = #[v0, v1] := by cases args; simp_all
  obtain ⟨rfl, rfl⟩ := trodVars_none hV
  obtain ⟨cs0, rfl, _⟩ := okWide_struct Try.underlying61 (hval 0 61 v0 rfl rfl)
  have k0 := h0
  have lt0 : ∀ x ∈ p0, x.block < W.heap.size := by obtain ⟨m, hm⟩ := k0; exact DataW.trod_lt m _ _ _ hm
  obtain ⟨x0, hK0, ok0⟩ := opn_arg opnA0 hsz (j := 0) (t := 61) rfl rfl h0
  generalize hL0 : (Value.agg cs0).cells.toList = L0 at hK0
  obtain ⟨l0_0, a0_1⟩ := x0
  obtain ⟨_, _, rfl, ⟨A0_0, c0_0, rfl, hc0_0, hr0_0⟩, rfl⟩ := hK0
  obtain rfl : cs0 = #[.slice A0_0 l0_0.length c0_0, .int .i64 a0_1] := by apply Array.ext'; simpa [Value.cells] using hL0
  clear hL0
  obtain ⟨ok0_0, ok0_1⟩ := ok0
  obtain ⟨cs1, rfl, _⟩ := okWide_struct Try.underlying61 (hval 1 61 v1 rfl rfl)
  have k1 := h1
  have lt1 : ∀ x ∈ p1, x.block < W.heap.size := by obtain ⟨m, hm⟩ := k1; exact DataW.trod_lt m _ _ _ hm
  obtain ⟨x1, hK1, ok1⟩ := opn_arg opnA1 hsz (j := 1) (t := 61) rfl rfl h1
  generalize hL1 : (Value.agg cs1).cells.toList = L1 at hK1
  obtain ⟨l1_0, a1_1⟩ := x1
  obtain ⟨_, _, rfl, ⟨A1_0, c1_0, rfl, hc1_0, hr1_0⟩, rfl⟩ := hK1
  obtain rfl : cs1 = #[.slice A1_0 l1_0.length c1_0, .int .i64 a1_1] := by apply Array.ext'; simpa [Value.cells] using hL1
  clear hL1
  obtain ⟨ok1_0, ok1_1⟩ := ok1
  clear hA0 hval0 hsz0 hsz
  obtain ⟨k, h⟩ := Pure.FnExactSameStore l0_0 a0_1 l1_0 a1_1 ok0_0 ok0_1 ok1_0 ok1_1
  refine (laws_FnExactSameStore.calls k _ _ l0_0 a0_1 _ _ l1_0 a1_1 true W hr0_0 hc0_0 hr1_0 hc1_0 h).mono fun e W' ⟨he, bel0⟩ => ?_
  have bel : Below W.heap.size W W' := bel0
  subst he
  exact ⟨_, rfl, _, _, _, [], _, [], hW', trodAll_mk1 (shut_bool Try.underlying4 _), (trodAll_cons_mk (Below.trod laidOut (by kernel_rfl) (of_decide_eq_true (by kernel_rfl)) k0 bel lt0) (trodAll_cons_mk (Below.trod laidOut (by kernel_rfl) (of_decide_eq_true (by kernel_rfl)) k1 bel lt1) trodAll_mk0)), rfl, bel.frame _, fun h => by cases h⟩
theorem closed : joinedFacts Try.pinned.checked.prog 9 Try.f9 Rows.fnExactSameStoreSpec Rows.fnExactSameStoreRow = true := by
  unfold joinedFacts
  rw [Go.Proofs.YtllpmcoknljhcaaO.mayEnter, Go.Proofs.YtllpmcoknljhcaaO.liftsFinal, Go.Proofs.YtllpmcoknljhcaaO.make_]
  kernel_rfl
theorem inst_ : Try.f9.isInstance Try.pinned.checked.prog Rows.fnExactSameStoreRow.origin Rows.fnExactSameStoreRow.targs := of_decide_eq_true (by kernel_rfl)
theorem named_ : Try.pinned.checked.prog.funcNamed Rows.fnExactSameStoreRow.func = some 9 := by kernel_rfl
theorem wrap_ : Try.f9.isWrapper Try.pinned.checked.prog Rows.fnExactSameStoreRow.wrapper Rows.fnExactSameStoreRow.mainSum := by unfold Func.isWrapper; first | (rw [if_pos (by decide +kernel)]; kernel_rfl) | (rw [if_neg (by decide +kernel)]; exact ⟨rfl, rfl⟩)
theorem over : Rows.fnExactSameStoreRow.holds Try.pinned (OpenSpec.ofChange Rows.fnExactSameStoreSpec) :=
  OpenClaim.holds_of_wide 9 Try.f9 rfl rfl rfl rfl rfl rfl rfl ⟨rfl, rfl, rfl, rfl, rfl⟩ rfl rfl rfl rfl rfl named_ Try.func9 closed
    inst_ wrap_
    (fun os started H enc _ => lifted os started H enc)
theorem proved : Rows.FnExactSameStoreSaid := over
#print axioms proved
end Go.Proofs.Ytllpmcoknljhcaa.fnExactSameStore
namespace Go.Proofs.Ytllpmcoknljhcaa
/-- The row, under a short name, for the claim. -/
theorem fnExactSameStore_holds : Rows.FnExactSameStoreSaid := fnExactSameStore.proved
end Go.Proofs.Ytllpmcoknljhcaa
