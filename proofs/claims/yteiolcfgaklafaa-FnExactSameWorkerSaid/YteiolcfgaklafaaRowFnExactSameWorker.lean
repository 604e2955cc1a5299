/- For every input the law FnExactSameWorker answers true, and each argument reads afterwards as it read before; no condition. -/
import Derived.Test.YteiolcfgaklafaaKinFnExactSameWorker
import Derived.Test.YteiolcfgaklafaaPureFnExactSameWorker
import Derived.Test.YteiolcfgaklafaaRows
import Derived.Test.YteiolcfgaklafaaHead
import Derived.WalkKit
import Derived.ProofKit
import Derived.OpenShut
import Derived.ShutString
import Derived.ChangeOld
import Derived.Below
import Derived.SizedLaws
import Derived.Carry
namespace Go.Proofs.Yteiolcfgaklafaa.fnExactSameWorker
open Go.ChangeShapes Go.WideShapes Go.ChangeAt Go.RowKit Go.Proofs.YteiolcfgaklafaaO Go.Proofs.YteiolcfgaklafaaW.PrintWords Go.Proofs.Yteiolcfgaklafaa.XFnExactSameWorker
open Go.ChangeMaps (open_string shut_string)
set_option linter.unusedVariables false
theorem own : ownKnob Try.prog.godebug = none := by kernel_rfl
theorem laidOut : laidOutB Try.prog = true := by kernel_rfl
set_option maxRecDepth 100000 in
theorem lifted (os : Os) (started : os.Started) (H : Type) (enc : TypeId × Value → H) :
    ReturnsInHanded {} Try.checked os 7 .any (Rows.fnExactSameWorkerSpec.pre6 enc Try.prog Try.f7 Rows.fnExactSameWorkerRow.domain false) (Rows.fnExactSameWorkerSpec.post enc Try.prog Try.f7 false true false false) := by
  refine returnsInHanded_of_change_sized (C := Try.checked) own started (by kernel_rfl) Try.func7
    (ChangeSpec.witness6 (enc := enc) (C := Try.checked) false ⟨#[], #[.agg #[.int .i64 0, .int .i64 0, .int .i64 0, .int .i64 0, .int .i64 0, .int .i64 0, .int .i64 0, .int .i64 0, .string ByteArray.empty, .slice none 0 0, .int .i64 0, .int .i64 0, .int .i64 0, .int .i64 0, .int .i64 0, .int .i64 0], .agg #[.int .i64 0, .int .i64 0, .int .i64 0, .int .i64 0, .int .i64 0, .int .i64 0, .int .i64 0, .int .i64 0, .string ByteArray.empty, .slice none 0 0, .int .i64 0, .int .i64 0, .int .i64 0, .int .i64 0, .int .i64 0, .int .i64 0]], []⟩ 12 (by kernel_rfl) (by kernel_rfl) (by kernel_rfl) (by kernel_rfl)) ?_
  intro W base args ds gs before hval0 hW hcnd hsz0 _
  have hsz : (DataW.weightsEach Try.prog (Try.f7.params.toList ++ Rows.fnExactSameWorkerSpec.plain.varTypes Try.prog) (ds ++ gs)).all (· ≤ reachBytes) = true := hsz0
  have hval : ∀ (j : Nat) t v, Try.f7.params[j]? = some t → args[j]? = some v → Value.okWide Try.prog W .any base t v := hval0
  have hW' := hW
  obtain ⟨p, q, hA0, hV, rfl, hfz, hnd⟩ := hW
  have hA : DataW.TrodAll enc Try.prog W 0 (fun _ => true) true Try.f7.params.toList args.toList ds p := hA0
  rw [Try.params7] at hA hval hsz
  obtain ⟨v0, vs0, d0, ds0, p0, q0, hargs, rfl, rfl, h0, r0⟩ := trodAll_cons hA
  obtain ⟨v1, vs1, d1, ds1, p1, q1, rfl, rfl, rfl, h1, r1⟩ := trodAll_cons r0
  obtain ⟨rfl, rfl, rfl⟩ := trodAll_nil r1
  obtain rfl : args = #[v0, v1] := by cases args; simp_all
  obtain ⟨rfl, rfl⟩ := trodVars_none hV
  obtain ⟨cs0, rfl, _⟩ := okWide_struct Try.underlying75 (hval 0 75 v0 rfl rfl)
  have k0 := h0
  have lt0 : ∀ x ∈ p0, x.block < W.heap.size := by obtain ⟨m, hm⟩ := k0; exact DataW.trod_lt m _ _ _ hm
  obtain ⟨x0, hK0, ok0⟩ := opn_arg opnA0 hsz (j := 0) (t := 75) rfl rfl h0
  generalize hL0 : (Value.agg cs0).cells.toList = L0 at hK0
  obtain ⟨a0_0, ⟨a0_1, ⟨a0_2, ⟨⟨a0_3, ⟨a0_4, ⟨a0_5, ⟨a0_6, ⟨a0_7, a0_8⟩⟩⟩⟩⟩, ⟨l0_9, ⟨a0_10, ⟨a0_11, ⟨a0_12, ⟨a0_13, ⟨a0_14, a0_15⟩⟩⟩⟩⟩⟩⟩⟩⟩⟩ := x0
  obtain ⟨_, _, rfl, rfl, ⟨_, _, rfl, rfl, ⟨_, _, rfl, rfl, ⟨_, _, rfl, ⟨_, _, rfl, rfl, ⟨_, _, rfl, rfl, ⟨_, _, rfl, rfl, ⟨_, _, rfl, rfl, ⟨_, _, rfl, rfl, rfl⟩⟩⟩⟩⟩, ⟨_, _, rfl, ⟨A0_9, c0_9, rfl, hc0_9, hr0_9⟩, ⟨_, _, rfl, rfl, ⟨_, _, rfl, rfl, ⟨_, _, rfl, rfl, ⟨_, _, rfl, rfl, ⟨_, _, rfl, rfl, rfl⟩⟩⟩⟩⟩⟩⟩⟩⟩⟩ := hK0
  obtain rfl : cs0 = #[.int .i64 a0_0, .int .i64 a0_1, .int .i64 a0_2, .int .i64 a0_3, .int .i64 a0_4, .int .i64 a0_5, .int .i64 a0_6, .int .i64 a0_7, .string a0_8, .slice A0_9 l0_9.length c0_9, .int .i64 a0_10, .int .i64 a0_11, .int .i64 a0_12, .int .i64 a0_13, .int .i64 a0_14, .int .i64 a0_15] := by apply Array.ext'; simpa [Value.cells] using hL0
  clear hL0
  obtain ⟨ok0_0, ⟨ok0_1, ⟨ok0_2, ⟨⟨ok0_3, ⟨ok0_4, ⟨ok0_5, ⟨ok0_6, ⟨ok0_7, ok0_8⟩⟩⟩⟩⟩, ⟨ok0_9, ⟨ok0_10, ⟨ok0_11, ⟨ok0_12, ⟨ok0_13, ⟨ok0_14, ok0_15⟩⟩⟩⟩⟩⟩⟩⟩⟩⟩ := ok0
  obtain ⟨cs1, rfl, _⟩ := okWide_struct Try.underlying75 (hval 1 75 v1 rfl rfl)
  have k1 := h1
  have lt1 : ∀ x ∈ p1, x.block < W.heap.size := by obtain ⟨m, hm⟩ := k1; exact DataW.trod_lt m _ _ _ hm
  obtain ⟨x1, hK1, ok1⟩ := opn_arg opnA1 hsz (j := 1) (t := 75) rfl rfl h1
  generalize hL1 : (Value.agg cs1).cells.toList = L1 at hK1
  obtain ⟨a1_0, ⟨a1_1, ⟨a1_2, ⟨⟨a1_3, ⟨a1_4, ⟨a1_5, ⟨a1_6, ⟨a1_7, a1_8⟩⟩⟩⟩⟩, ⟨l1_9, ⟨a1_10, ⟨a1_11, ⟨a1_12, ⟨a1_13, ⟨a1_14, a1_15⟩⟩⟩⟩⟩⟩⟩⟩⟩⟩ := x1
  obtain ⟨_, _, rfl, rfl, ⟨_, _, rfl, rfl, ⟨_, _, rfl, rfl, ⟨_, _, rfl, ⟨_, _, rfl, rfl, ⟨_, _, rfl, rfl, ⟨_, _, rfl, rfl, ⟨_, _, rfl, rfl, ⟨_, _, rfl, rfl, rfl⟩⟩⟩⟩⟩, ⟨_, _, rfl, ⟨A1_9, c1_9, rfl, hc1_9, hr1_9⟩, ⟨_, _, rfl, rfl, ⟨_, _, rfl, rfl, ⟨_, _, rfl, rfl, ⟨_, _, rfl, rfl, ⟨_, _, rfl, rfl, rfl⟩⟩⟩⟩⟩⟩⟩⟩⟩⟩ := hK1
  obtain rfl : cs1 = #[.int .i64 a1_0, .int .i64 a1_1, .int .i64 a1_2, .int .i64 a1_3, .int .i64 a1_4, .int .i64 a1_5, .int .i64 a1_6, .int .i64 a1_7, .string a1_8, .slice A1_9 l1_9.length c1_9, .int .i64 a1_10, .int .i64 a1_11, .int .i64 a1_12, .int .i64 a1_13, .int .i64 a1_14, .int .i64 a1_15] := by apply Array.ext'; simpa [Value.cells] using hL1
  clear hL1
  obtain ⟨ok1_0, ⟨ok1_1, ⟨ok1_2, ⟨⟨ok1_3, ⟨ok1_4, ⟨ok1_5, ⟨ok1_6, ⟨ok1_7, ok1_8⟩⟩⟩⟩⟩, ⟨ok1_9, ⟨ok1_10, ⟨ok1_11, ⟨ok1_12, ⟨ok1_13, ⟨ok1_14, ok1_15⟩⟩⟩⟩⟩⟩⟩⟩⟩⟩ := ok1
  clear hA0 hval0 hsz0 hsz
  obtain ⟨k, h⟩ := Pure.FnExactSameWorker a0_0 a0_1 a0_2 a0_3 a0_4 a0_5 a0_6 a0_7 a0_8 l0_9 a0_10 a0_11 a0_12 a0_13 a0_14 a0_15 a1_0 a1_1 a1_2 a1_3 a1_4 a1_5 a1_6 a1_7 a1_8 l1_9 a1_10 a1_11 a1_12 a1_13 a1_14 a1_15 ok0_0 ok0_1 ok0_2 ok0_3 ok0_4 ok0_5 ok0_6 ok0_7 ok0_8 ok0_9 ok0_10 ok0_11 ok0_12 ok0_13 ok0_14 ok0_15 ok1_0 ok1_1 ok1_2 ok1_3 ok1_4 ok1_5 ok1_6 ok1_7 ok1_8 ok1_9 ok1_10 ok1_11 ok1_12 ok1_13 ok1_14 ok1_15
  refine (laws_FnExactSameWorker.calls k a0_0 a0_1 a0_2 a0_3 a0_4 a0_5 a0_6 a0_7 a0_8 _ _ l0_9 a0_10 a0_11 a0_12 a0_13 a0_14 a0_15 a1_0 a1_1 a1_2 a1_3 a1_4 a1_5 a1_6 a1_7 a1_8 _ _ l1_9 a1_10 a1_11 a1_12 a1_13 a1_14 a1_15 true W hr0_9 hc0_9 hr1_9 hc1_9 h).mono fun e W' ⟨he, bel0⟩ => ?_
  have bel : Below W.heap.size W W' := bel0
  subst he
  exact ⟨_, rfl, _, _, _, [], _, [], hW', trodAll_mk1 (shut_bool Try.underlying4 _), (trodAll_cons_mk (Below.trod laidOut (by kernel_rfl) (of_decide_eq_true (by kernel_rfl)) k0 bel lt0) (trodAll_cons_mk (Below.trod laidOut (by kernel_rfl) (of_decide_eq_true (by kernel_rfl)) k1 bel lt1) trodAll_mk0)), rfl, bel.frame _, fun h => by cases h⟩
theorem closed : joinedFacts Try.pinned.checked.prog 7 Try.f7 Rows.fnExactSameWorkerSpec Rows.fnExactSameWorkerRow = true := by
  unfold joinedFacts
  rw [Go.Proofs.YteiolcfgaklafaaO.mayEnter, Go.Proofs.YteiolcfgaklafaaO.liftsFinal, Go.Proofs.YteiolcfgaklafaaO.make_]
  kernel_rfl
theorem inst_ : Try.f7.isInstance Try.pinned.checked.prog Rows.fnExactSameWorkerRow.origin Rows.fnExactSameWorkerRow.targs := of_decide_eq_true (by kernel_rfl)
theorem named_ : Try.pinned.checked.prog.funcNamed Rows.fnExactSameWorkerRow.func = some 7 := by kernel_rfl
theorem wrap_ : Try.f7.isWrapper Try.pinned.checked.prog Rows.fnExactSameWorkerRow.wrapper Rows.fnExactSameWorkerRow.mainSum := by unfold Func.isWrapper; first | (rw [if_pos (by decide +kernel)]; kernel_rfl) | (rw [if_neg (by decide +kernel)]; exact ⟨rfl, rfl⟩)
theorem over : Rows.fnExactSameWorkerRow.holds Try.pinned (OpenSpec.ofChange Rows.fnExactSameWorkerSpec) :=
  OpenClaim.holds_of_wide 7 Try.f7 rfl rfl rfl rfl rfl rfl rfl ⟨rfl, rfl, rfl, rfl, rfl⟩ rfl rfl rfl rfl rfl named_ Try.func7 closed
    inst_ wrap_
    (fun os started H enc _ => lifted os started H enc)
theorem proved : Rows.FnExactSameWorkerSaid := over
#print axioms proved
end Go.Proofs.Yteiolcfgaklafaa.fnExactSameWorker
namespace Go.Proofs.Yteiolcfgaklafaa
/-- The row, under a short name, for the claim. -/
theorem fnExactSameWorker_holds : Rows.FnExactSameWorkerSaid := fnExactSameWorker.proved
end Go.Proofs.Yteiolcfgaklafaa
