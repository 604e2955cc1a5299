/- For every input the law FnExactSameState answers true, and each argument reads afterwards as it read before; no condition. -/
import Derived.Test.YteiolcfgaklafaaKinFnExactSameState
import Derived.Test.YteiolcfgaklafaaPureFnExactSameState
import Derived.Test.YteiolcfgaklafaaRows
import Derived.Test.YteiolcfgaklafaaHead
import Derived.WalkKit
import Derived.ProofKit
import Derived.OpenShut
import Derived.ShutString
import Derived.ChangeOld
import Derived.Below
import Derived.SizedLaws
import Derived.Carry
namespace Go.Proofs.Yteiolcfgaklafaa.fnExactSameState
open Go.ChangeShapes Go.WideShapes Go.ChangeAt Go.RowKit Go.Proofs.YteiolcfgaklafaaO Go.Proofs.YteiolcfgaklafaaW.PrintWords Go.Proofs.Yteiolcfgaklafaa.XFnExactSameState
open Go.ChangeMaps (open_string shut_string)
set_option linter.unusedVariables false
theorem own : ownKnob Try.prog.godebug = none := by kernel_rfl
theorem laidOut : laidOutB Try.prog = true := by kernel_rfl
set_option maxRecDepth 100000 in
theorem lifted (os : Os) (started : os.Started) (H : Type) (enc : TypeId × Value → H) :
    ReturnsInHanded {} Try.checked os 8 .any (Rows.fnExactSameStateSpec.pre6 enc Try.prog Try.f8 Rows.fnExactSameStateRow.domain false) (Rows.fnExactSameStateSpec.post enc Try.prog Try.f8 false true false false) := by
  refine returnsInHanded_of_change_sized (C := Try.checked) own started (by kernel_rfl) Try.func8
    (ChangeSpec.witness6 (enc := enc) (C := Try.checked) false ⟨#[], #[.agg #[.int .i64 0, .int .i64 0, .slice none 0 0, .slice none 0 0, .int .i64 0, .int .i64 0, .int .i64 0, .int .i64 0, .int .i64 0, .int .i64 0], .agg #[.int .i64 0, .int .i64 0, .slice none 0 0, .slice none 0 0, .int .i64 0, .int .i64 0, .int .i64 0, .int .i64 0, .int .i64 0, .int .i64 0]], []⟩ 12 (by kernel_rfl) (by kernel_rfl) (by kernel_rfl) (by kernel_rfl)) ?_
  intro W base args ds gs before hval0 hW hcnd hsz0 _
  have hsz : (DataW.weightsEach Try.prog (Try.f8.params.toList ++ Rows.fnExactSameStateSpec.plain.varTypes Try.prog) (ds ++ gs)).all (· ≤ reachBytes) = true := hsz0
  have hval : ∀ (j : Nat) t v, Try.f8.params[j]? = some t → args[j]? = some v → Value.okWide Try.prog W .any base t v := hval0
  have hW' := hW
  obtain ⟨p, q, hA0, hV, rfl, hfz, hnd⟩ := hW
  have hA : DataW.TrodAll enc Try.prog W 0 (fun _ => true) true Try.f8.params.toList args.toList ds p := hA0
  rw [Try.params8] at hA hval hsz
  obtain ⟨v0, vs0, d0, ds0, p0, q0, hargs, rfl, rfl, h0, r0⟩ := trodAll_cons hA
  obtain ⟨v1, vs1, d1, ds1, p1, q1, rfl, rfl, rfl, h1, r1⟩ := trodAll_cons r0
  obtain ⟨rfl, rfl, rfl⟩ := trodAll_nil r1
  obtain rfl : args = #[v0, v1] := by cases args; simp_all
  obtain ⟨rfl, rfl⟩ := trodVars_none hV
  obtain ⟨cs0, rfl, _⟩ := okWide_struct Try.underlying82 (hval 0 82 v0 rfl rfl)
  have k0 := h0
  have lt0 : ∀ x ∈ p0, x.block < W.heap.size := by obtain ⟨m, hm⟩ := k0; exact DataW.trod_lt m _ _ _ hm
  obtain ⟨x0, hK0, ok0⟩ := opn_arg opnA0 hsz (j := 0) (t := 82) rfl rfl h0
  generalize hL0 : (Value.agg cs0).cells.toList = L0 at hK0
  obtain ⟨a0_0, ⟨a0_1, ⟨l0_2, ⟨l0_3, ⟨⟨a0_4, ⟨a0_5, a0_6⟩⟩, ⟨a0_7, ⟨a0_8, a0_9⟩⟩⟩⟩⟩⟩⟩ := x0
  obtain ⟨_, _, rfl, rfl, ⟨_, _, rfl, rfl, ⟨_, _, rfl, ⟨A0_2, c0_2, rfl, hc0_2, hr0_2⟩, ⟨_, _, rfl, ⟨A0_3, c0_3, rfl, hc0_3, hr0_3⟩, ⟨_, _, rfl, ⟨_, _, rfl, rfl, ⟨_, _, rfl, rfl, rfl⟩⟩, ⟨_, _, rfl, rfl, ⟨_, _, rfl, rfl, rfl⟩⟩⟩⟩⟩⟩⟩ := hK0
  obtain rfl : cs0 = #[.int .i64 a0_0, .int .i64 a0_1, .slice A0_2 l0_2.length c0_2, .slice A0_3 l0_3.length c0_3, .int .i64 a0_4, .int .i64 a0_5, .int .i64 a0_6, .int .i64 a0_7, .int .i64 a0_8, .int .i64 a0_9] := by apply Array.ext'; simpa [Value.cells] using hL0
  clear hL0
  obtain ⟨ok0_0, ⟨ok0_1, ⟨ok0_2, ⟨ok0_3, ⟨⟨ok0_4, ⟨ok0_5, ok0_6⟩⟩, ⟨ok0_7, ⟨ok0_8, ok0_9⟩⟩⟩⟩⟩⟩⟩ := ok0
  obtain ⟨cs1, rfl, _⟩ := okWide_struct Try.underlying82 (hval 1 82 v1 rfl rfl)
  have k1 := h1
  have lt1 : ∀ x ∈ p1, x.block < W.heap.size := by obtain ⟨m, hm⟩ := k1; exact DataW.trod_lt m _ _ _ hm
  obtain ⟨x1, hK1, ok1⟩ := opn_arg opnA1 hsz (j := 1) (t := 82) rfl rfl h1
  generalize hL1 : (Value.agg cs1).cells.toList = L1 at hK1
  obtain ⟨a1_0, ⟨a1_1, ⟨l1_2, ⟨l1_3, ⟨⟨a1_4, ⟨a1_5, a1_6⟩⟩, ⟨a1_7, ⟨a1_8, a1_9⟩⟩⟩⟩⟩⟩⟩ := x1
  obtain ⟨_, _, rfl, rfl, ⟨_, _, rfl, rfl, ⟨_, _, rfl, ⟨A1_2, c1_2, rfl, hc1_2, hr1_2⟩, ⟨_, _, rfl, ⟨A1_3, c1_3, rfl, hc1_3, hr1_3⟩, ⟨_, _, rfl, ⟨_, _, rfl, rfl, ⟨_, _, rfl, rfl, rfl⟩⟩, ⟨_, _, rfl, rfl, ⟨_, _, rfl, rfl, rfl⟩⟩⟩⟩⟩⟩⟩ := hK1
  obtain rfl : cs1 = #[.int .i64 a1_0, .int .i64 a1_1, .slice A1_2 l1_2.length c1_2, .slice A1_3 l1_3.length c1_3, .int .i64 a1_4, .int .i64 a1_5, .int .i64 a1_6, .int .i64 a1_7, .int .i64 a1_8, .int .i64 a1_9] := by apply Array.ext'; simpa [Value.cells] using hL1
  clear hL1
  obtain ⟨ok1_0, ⟨ok1_1, ⟨ok1_2, ⟨ok1_3, ⟨⟨ok1_4, ⟨ok1_5, ok1_6⟩⟩, ⟨ok1_7, ⟨ok1_8, ok1_9⟩⟩⟩⟩⟩⟩⟩ := ok1
  clear hA0 hval0 hsz0 hsz
  obtain ⟨k, h⟩ := Pure.FnExactSameState a0_0 a0_1 l0_2 l0_3 a0_4 a0_5 a0_6 a0_7 a0_8 a0_9 a1_0 a1_1 l1_2 l1_3 a1_4 a1_5 a1_6 a1_7 a1_8 a1_9 ok0_0 ok0_1 ok0_2 ok0_3 ok0_4 ok0_5 ok0_6 ok0_7 ok0_8 ok0_9 ok1_0 ok1_1 ok1_2 ok1_3 ok1_4 ok1_5 ok1_6 ok1_7 ok1_8 ok1_9
  refine (laws_FnExactSameState.calls k a0_0 a0_1 _ _ l0_2 _ _ l0_3 a0_4 a0_5 a0_6 a0_7 a0_8 a0_9 a1_0 a1_1 _ _ l1_2 _ _ l1_3 a1_4 a1_5 a1_6 a1_7 a1_8 a1_9 true W hr0_2 hc0_2 hr0_3 hc0_3 hr1_2 hc1_2 hr1_3 hc1_3 h).mono fun e W' ⟨he, bel0⟩ => ?_
  have bel : Below W.heap.size W W' := bel0
  subst he
  exact ⟨_, rfl, _, _, _, [], _, [], hW', trodAll_mk1 (shut_bool Try.underlying4 _), (trodAll_cons_mk (Below.trod laidOut (by kernel_rfl) (of_decide_eq_true (by kernel_rfl)) k0 bel lt0) (trodAll_cons_mk (Below.trod laidOut (by kernel_rfl) (of_decide_eq_true (by kernel_rfl)) k1 bel lt1) trodAll_mk0)), rfl, bel.frame _, fun h => by cases h⟩
theorem closed : joinedFacts Try.pinned.checked.prog 8 Try.f8 Rows.fnExactSameStateSpec Rows.fnExactSameStateRow = true := by
  unfold joinedFacts
  rw [Go.Proofs.YteiolcfgaklafaaO.mayEnter, Go.Proofs.YteiolcfgaklafaaO.liftsFinal, Go.Proofs.YteiolcfgaklafaaO.make_]
  kernel_rfl
theorem inst_ : Try.f8.isInstance Try.pinned.checked.prog Rows.fnExactSameStateRow.origin Rows.fnExactSameStateRow.targs := of_decide_eq_true (by kernel_rfl)
theorem named_ : Try.pinned.checked.prog.funcNamed Rows.fnExactSameStateRow.func = some 8 := by kernel_rfl
theorem wrap_ : Try.f8.isWrapper Try.pinned.checked.prog Rows.fnExactSameStateRow.wrapper Rows.fnExactSameStateRow.mainSum := by unfold Func.isWrapper; first | (rw [if_pos (by decide +kernel)]; kernel_rfl) | (rw [if_neg (by decide +kernel)]; exact ⟨rfl, rfl⟩)
theorem over : Rows.fnExactSameStateRow.holds Try.pinned (OpenSpec.ofChange Rows.fnExactSameStateSpec) :=
  OpenClaim.holds_of_wide 8 Try.f8 rfl rfl rfl rfl rfl rfl rfl ⟨rfl, rfl, rfl, rfl, rfl⟩ rfl rfl rfl rfl rfl named_ Try.func8 closed
    inst_ wrap_
    (fun os started H enc _ => lifted os started H enc)
theorem proved : Rows.FnExactSameStateSaid := over
#print axioms proved
end Go.Proofs.Yteiolcfgaklafaa.fnExactSameState
namespace Go.Proofs.Yteiolcfgaklafaa
/-- The row, under a short name, for the claim. -/
theorem fnExactSameState_holds : Rows.FnExactSameStateSaid := fnExactSameState.proved
end Go.Proofs.Yteiolcfgaklafaa
