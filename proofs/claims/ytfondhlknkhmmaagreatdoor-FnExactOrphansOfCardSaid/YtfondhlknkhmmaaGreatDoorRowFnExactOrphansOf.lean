/- For every input the law FnExactOrphansOf answers true, and each argument reads afterwards as it read before; no condition. -/
import Derived.Test.YtfondhlknkhmmaaGreatDoorKinFnExactOrphansOf
import Derived.Test.YtfondhlknkhmmaaGreatDoorPureFnExactOrphansOf
import Derived.Test.YtfondhlknkhmmaaGreatDoorRows
import Derived.Test.YtfondhlknkhmmaaGreatDoorLaid
import Derived.Test.YtfondhlknkhmmaaGreatDoorTie
import Derived.Test.YtfondhlknkhmmaaGreatDoorCards
import Derived.LaidMore
import Derived.Lay
import Derived.LaidOnce
import Derived.MakeChecks
import Derived.SevenTiedAt
import Derived.WalkKit
import Derived.ProofKit
import Derived.OpenShut
import Derived.ShutString
import Derived.ChangeOld
import Derived.Below
import Derived.SizedLaws
import Derived.Carry
namespace Go.Proofs.YtfondhlknkhmmaaGreatDoor.fnExactOrphansOf
open Go.ChangeShapes Go.WideShapes Go.ChangeAt Go.RowKit Go.Proofs.YtfondhlknkhmmaaGreatDoorO Go.Proofs.YtfondhlknkhmmaaGreatDoorW.PrintWords Go.Proofs.YtfondhlknkhmmaaGreatDoor.XFnExactOrphansOf
open Go.ChangeMaps (open_string shut_string)
set_option linter.unusedVariables false
theorem own : ownKnob Tryz.prog.godebug = none := by kernel_rfl
theorem laidOut : laidOutB Tryz.prog = true := by kernel_rfl
def laid : List (String × DataW Unit) := [("math/bits.deBruijn32tab", Rows.laid_math_bits_deBruijn32tab), ("math/bits.deBruijn64tab", Rows.laid_math_bits_deBruijn64tab), ("internal/strconv.uint64pow10", Rows.laid_internal_strconv_uint64pow10), ("strconv.ErrRange", Rows.laid_strconv_ErrRange), ("strconv.ErrSyntax", Rows.laid_strconv_ErrSyntax)]
set_option maxRecDepth 100000 in
theorem lifted (os : Os) (started : os.Started) (H : Type) (enc : TypeId × Value → H) :
    ReturnsInHanded {} Tryz.checked os 3 .any (fun w args => (Rows.fnExactOrphansOfSpec.pre enc Tryz.prog Tryz.f3 [] false w args ∧ laidMetH Tryz.prog laid w) ∧ sizedMet enc Tryz.prog Tryz.f3 (OpenSpec.ofChange Rows.fnExactOrphansOfSpec) false w args) (Rows.fnExactOrphansOfSpec.post enc Tryz.prog Tryz.f3 false true false false) := by
  refine returns_laid (C := Tryz.checked) (X := fun w _ => laidMetH Tryz.prog laid w) (fun _ _ _ hh h => h.of_heap hh) own started (by kernel_rfl) Tryz.func3
    (ChangeSpec.witness_shaped (enc := enc) (C := Tryz.checked) (os := os) (X := fun w _ => laidMetH Tryz.prog laid w) false (World.laidAll Tryz.prog os laid) #[.agg #[.int .i64 0, .int .i64 0, .slice none 0 0, .slice none 0 0, .int .i64 0, .int .i64 0, .int .i64 0, .int .i64 0, .int .i64 0, .int .i64 0], .slice none 0 0] 12 (World.laidAll_os _ _ _)
      (World.shaped_of_ZipB (by kernel_rfl) (by kernel_rfl)) (by kernel_rfl) (by kernel_rfl) (by kernel_rfl)
      (by rw [MakeChecks.laidMetH_plain _ _ _ (by kernel_rfl)]; exact laidMet_laidAll _ (by kernel_rfl) (by kernel_rfl))) ?_
  intro W base args ds gs before hval0 hW hsz0 hsh hL0
  have hL : laidMet Tryz.prog laid W := by
    rw [MakeChecks.laidMetH_plain _ _ _ (by kernel_rfl)] at hL0
    exact hL0
  have hvars : Vars W := ⟨tab_of_laid (show Tryz.prog.globalNamed "internal/strconv.uint64pow10" = some 2 by kernel_rfl) (by kernel_rfl) Tryz.underlying133 Tryz.underlying113 (by kernel_rfl) (by kernel_rfl) hL (.tail _ (.tail _ (.head _))),
    ev_of_laid (show Tryz.prog.globalNamed "strconv.ErrSyntax" = some 0 by kernel_rfl) (by kernel_rfl) Tryz.underlying100 hL (.tail _ (.tail _ (.tail _ (.tail _ (.head _))))),
    ev_of_laid (show Tryz.prog.globalNamed "strconv.ErrRange" = some 1 by kernel_rfl) (by kernel_rfl) Tryz.underlying100 hL (.tail _ (.tail _ (.tail _ (.head _))))⟩
  have hsz : (DataW.weightsEach Tryz.prog (Tryz.f3.params.toList ++ Rows.fnExactOrphansOfSpec.plain.varTypes Tryz.prog) (ds ++ gs)).all (· ≤ reachBytes) = true := hsz0
  have hval : ∀ (j : Nat) t v, Tryz.f3.params[j]? = some t → args[j]? = some v → Value.okWide Tryz.prog W .any base t v := hval0
  have hW' := hW
  obtain ⟨p, q, hA0, hV, rfl, hfz, hnd⟩ := hW
  have hA : DataW.TrodAll enc Tryz.prog W 0 (fun _ => true) true Tryz.f3.params.toList args.toList ds p := hA0
  rw [Tryz.params3] at hA hval hsz
  obtain ⟨v0, vs0, d0, ds0, p0, q0, hargs, rfl, rfl, h0, r0⟩ := trodAll_cons hA
  obtain ⟨v1, vs1, d1, ds1, p1, q1, rfl, rfl, rfl, h1, r1⟩ := trodAll_cons r0
  obtain ⟨rfl, rfl, rfl⟩ := trodAll_nil r1
  obtain rfl : args = #[v0, v1] := by cases args; simp_all
  obtain ⟨rfl, rfl⟩ := trodVars_none hV
  obtain ⟨cs0, rfl, _⟩ := okWide_struct Tryz.underlying26 (hval 0 26 v0 rfl rfl)
  have k0 := h0
  have lt0 : ∀ x ∈ p0, x.block < W.heap.size := by obtain ⟨m, hm⟩ := k0; exact DataW.trod_lt m _ _ _ hm
  obtain ⟨x0, hK0, ok0⟩ := opn_arg opnA0 hsz (j := 0) (t := 26) rfl rfl h0
  generalize hL0 : (Value.agg cs0).cells.toList = L0 at hK0
  obtain ⟨a0_0, ⟨a0_1, ⟨l0_2, ⟨l0_3, ⟨⟨a0_4, ⟨a0_5, a0_6⟩⟩, ⟨a0_7, ⟨a0_8, a0_9⟩⟩⟩⟩⟩⟩⟩ := x0
  obtain ⟨_, _, rfl, rfl, ⟨_, _, rfl, rfl, ⟨_, _, rfl, ⟨A0_2, c0_2, rfl, hc0_2, hr0_2⟩, ⟨_, _, rfl, ⟨A0_3, c0_3, rfl, hc0_3, hr0_3⟩, ⟨_, _, rfl, ⟨_, _, rfl, rfl, ⟨_, _, rfl, rfl, rfl⟩⟩, ⟨_, _, rfl, rfl, ⟨_, _, rfl, rfl, rfl⟩⟩⟩⟩⟩⟩⟩ := hK0
  obtain rfl : cs0 = #[.int .i64 a0_0, .int .i64 a0_1, .slice A0_2 l0_2.length c0_2, .slice A0_3 l0_3.length c0_3, .int .i64 a0_4, .int .i64 a0_5, .int .i64 a0_6, .int .i64 a0_7, .int .i64 a0_8, .int .i64 a0_9] := by apply Array.ext'; simpa [Value.cells] using hL0
  clear hL0
  obtain ⟨ok0_0, ⟨ok0_1, ⟨ok0_2, ⟨ok0_3, ⟨⟨ok0_4, ⟨ok0_5, ok0_6⟩⟩, ⟨ok0_7, ⟨ok0_8, ok0_9⟩⟩⟩⟩⟩⟩⟩ := ok0
  obtain ⟨A1, n1, c1, rfl⟩ := okWide_slice Tryz.underlying27 (hval 1 27 v1 rfl rfl)
  have k1 := h1
  have lt1 : ∀ x ∈ p1, x.block < W.heap.size := by obtain ⟨m, hm⟩ := k1; exact DataW.trod_lt m _ _ _ hm
  obtain ⟨l1, hK1, ok1⟩ := opn_arg opnA1 hsz (j := 1) (t := 27) rfl rfl h1
  obtain ⟨B1, d1_, e1, hc1, hr1⟩ := hK1
  obtain ⟨rfl, rfl, rfl⟩ : A1 = B1 ∧ n1 = l1.length ∧ c1 = d1_ := by simpa [Value.cells] using e1
  clear hA0 hval0 hsz0 hsz hL0 hL hsh
  obtain ⟨k, h⟩ := Pure.FnExactOrphansOf a0_0 a0_1 l0_2 l0_3 a0_4 a0_5 a0_6 a0_7 a0_8 a0_9 l1 ok0_0 ok0_1 ok0_2 ok0_3 ok0_4 ok0_5 ok0_6 ok0_7 ok0_8 ok0_9 ok1
  refine (laws_FnExactOrphansOf.calls k a0_0 a0_1 _ _ l0_2 _ _ l0_3 a0_4 a0_5 a0_6 a0_7 a0_8 a0_9 _ _ l1 true W hvars hr0_2 hc0_2 hr0_3 hc0_3 hr1 hc1 h).mono fun e W' ⟨he, bel0⟩ => ?_
  have bel : Below W.heap.size W W' := bel0
  subst he
  exact ⟨_, rfl, _, _, _, [], _, [], hW', trodAll_mk1 (shut_bool Tryz.underlying4 _), (trodAll_cons_mk (Below.trod laidOut (by kernel_rfl) (of_decide_eq_true (by kernel_rfl)) k0 bel lt0) (trodAll_cons_mk (Below.trod laidOut (by kernel_rfl) (of_decide_eq_true (by kernel_rfl)) k1 bel lt1) trodAll_mk0)), rfl, bel.frame _, fun h => by cases h⟩
theorem closed : joinedFacts Tryz.pinned.checked.prog 3 Tryz.f3 Rows.fnExactOrphansOfSpec Rows.fnExactOrphansOfRow = true := by kernel_rfl
theorem inst_ : Tryz.f3.isInstance Tryz.pinned.checked.prog Rows.fnExactOrphansOfRow.origin Rows.fnExactOrphansOfRow.targs := of_decide_eq_true (by kernel_rfl)
theorem named_ : Tryz.pinned.checked.prog.funcNamed Rows.fnExactOrphansOfRow.func = some 3 := by kernel_rfl
theorem wrap_ : Tryz.f3.isWrapper Tryz.pinned.checked.prog Rows.fnExactOrphansOfRow.wrapper Rows.fnExactOrphansOfRow.mainSum := by unfold Func.isWrapper; first | (rw [if_pos (by decide +kernel)]; kernel_rfl) | (rw [if_neg (by decide +kernel)]; exact ⟨rfl, rfl⟩)
theorem over : Rows.fnExactOrphansOfRow.holds Tryz.pinned (OpenSpec.ofChange Rows.fnExactOrphansOfSpec) :=
  OpenClaim.holds_of_wide 3 Tryz.f3 rfl rfl rfl rfl rfl rfl rfl ⟨rfl, rfl, rfl, rfl, rfl⟩ rfl rfl rfl rfl rfl named_ Tryz.func3 closed
    inst_ wrap_
    (fun os started H enc _ => lifted os started H enc)
theorem proved : Rows.FnExactOrphansOfSaid := over
theorem card_holds : Rows.FnExactOrphansOfCardSaid :=
  Claim7.holds_tied_plain_at .later [] [.data, .data, .data, .sentinel, .sentinel] true (true, "e2042901abe41af4a833067c830a41e10b09220174dbe6404b7bf3252cf83739") true proved (fun _ h => by cases h) (by kernel_rfl) (fun _ h => by cases h) fnExactOrphansOf_row_tie rfl ⟨rfl, rfl⟩ (by kernel_rfl) rfl
    (fun f fn hf hfn => by
      obtain rfl : f = 3 := Option.some.inj ((show Tryz.prog.funcNamed "loop.example/g00601/laws.FnExactOrphansOf" = some 3 by kernel_rfl).symm.trans hf) |>.symm
      obtain rfl : fn = Tryz.f3 := (Option.some.inj (Tryz.func3.symm.trans hfn)).symm
      exact ⟨by kernel_rfl, fun j t ht => by
        rw [Tryz.params3] at ht
        have hm : t ∈ [26, 27] := by simpa using Array.mem_of_getElem? ht
        have hall : ([26, 27].all fun u => !Tryz.prog.wantsStandIn u) = true := by kernel_rfl
        exact (show Tryz.prog.wantsStandIn t = false by simpa using List.all_eq_true.1 hall t hm)⟩)
    (by kernel_rfl)
#print axioms card_holds
end Go.Proofs.YtfondhlknkhmmaaGreatDoor.fnExactOrphansOf
namespace Go.Proofs.YtfondhlknkhmmaaGreatDoor
/-- The row, under a short name, for the claim. -/
theorem fnExactOrphansOf_holds : Rows.FnExactOrphansOfCardSaid := fnExactOrphansOf.card_holds
end Go.Proofs.YtfondhlknkhmmaaGreatDoor
