/- For every input the law FnExactWorkerOK answers true, and each argument reads afterwards as it read before; no condition. -/
import Derived.Test.YtleifhnoaaphmaaDoorKinFnExactWorkerOK
import Derived.Test.YtleifhnoaaphmaaDoorPureFnExactWorkerOK
import Derived.Test.YtleifhnoaaphmaaDoorRows
import Derived.Test.YtleifhnoaaphmaaDoorLaid
import Derived.Test.YtleifhnoaaphmaaDoorTie
import Derived.Test.YtleifhnoaaphmaaDoorCards
import Derived.LaidMore
import Derived.Lay
import Derived.LaidOnce
import Derived.MakeChecks
import Derived.SevenTiedAt
import Derived.WalkKit
import Derived.ProofKit
import Derived.OpenShut
import Derived.ShutString
import Derived.ChangeOld
import Derived.Below
import Derived.SizedLaws
import Derived.Carry
namespace Go.Proofs.YtleifhnoaaphmaaDoor.fnExactWorkerOK
open Go.ChangeShapes Go.WideShapes Go.ChangeAt Go.RowKit Go.Proofs.YtleifhnoaaphmaaDoorO Go.Proofs.YtleifhnoaaphmaaDoorW.PrintWords Go.Proofs.YtleifhnoaaphmaaDoor.XFnExactWorkerOK
open Go.ChangeMaps (open_string shut_string)
set_option linter.unusedVariables false
theorem own : ownKnob Tryd.prog.godebug = none := by kernel_rfl
theorem laidOut : laidOutB Tryd.prog = true := by kernel_rfl
def laid : List (String × DataW Unit) := [("math/bits.deBruijn32tab", Rows.laid_math_bits_deBruijn32tab), ("math/bits.deBruijn64tab", Rows.laid_math_bits_deBruijn64tab), ("internal/strconv.uint64pow10", Rows.laid_internal_strconv_uint64pow10), ("strconv.ErrRange", Rows.laid_strconv_ErrRange), ("strconv.ErrSyntax", Rows.laid_strconv_ErrSyntax)]
set_option maxRecDepth 100000 in
theorem lifted (os : Os) (started : os.Started) (H : Type) (enc : TypeId × Value → H) :
    ReturnsInHanded {} Tryd.checked os 4 .any (fun w args => (Rows.fnExactWorkerOKSpec.pre enc Tryd.prog Tryd.f4 [] false w args ∧ laidMetH Tryd.prog laid w) ∧ sizedMet enc Tryd.prog Tryd.f4 (OpenSpec.ofChange Rows.fnExactWorkerOKSpec) false w args) (Rows.fnExactWorkerOKSpec.post enc Tryd.prog Tryd.f4 false true false false) := by
  refine returns_laid (C := Tryd.checked) (X := fun w _ => laidMetH Tryd.prog laid w) (fun _ _ _ hh h => h.of_heap hh) own started (by kernel_rfl) Tryd.func4
    (ChangeSpec.witness_shaped (enc := enc) (C := Tryd.checked) (os := os) (X := fun w _ => laidMetH Tryd.prog laid w) false (World.laidAll Tryd.prog os laid) #[.agg #[.int .i64 0, .int .i64 0, .int .i64 0, .int .i64 0, .int .i64 0, .int .i64 0, .int .i64 0, .int .i64 0, .string ByteArray.empty, .slice none 0 0, .int .i64 0, .int .i64 0, .int .i64 0, .int .i64 0, .int .i64 0, .int .i64 0]] 12 (World.laidAll_os _ _ _)
      (World.shaped_of_ZipB (by kernel_rfl) (by kernel_rfl)) (by kernel_rfl) (by kernel_rfl) (by kernel_rfl)
      (by rw [MakeChecks.laidMetH_plain _ _ _ (by kernel_rfl)]; exact laidMet_laidAll _ (by kernel_rfl) (by kernel_rfl))) ?_
  intro W base args ds gs before hval0 hW hsz0 hsh hL0
  have hL : laidMet Tryd.prog laid W := by
    rw [MakeChecks.laidMetH_plain _ _ _ (by kernel_rfl)] at hL0
    exact hL0
  have hvars : Vars W := ⟨tab_of_laid (show Tryd.prog.globalNamed "internal/strconv.uint64pow10" = some 3 by kernel_rfl) (by kernel_rfl) Tryd.underlying189 Tryd.underlying166 (by kernel_rfl) (by kernel_rfl) hL (.tail _ (.tail _ (.head _))),
    ev_of_laid (show Tryd.prog.globalNamed "strconv.ErrSyntax" = some 1 by kernel_rfl) (by kernel_rfl) Tryd.underlying148 hL (.tail _ (.tail _ (.tail _ (.tail _ (.head _))))),
    ev_of_laid (show Tryd.prog.globalNamed "strconv.ErrRange" = some 2 by kernel_rfl) (by kernel_rfl) Tryd.underlying148 hL (.tail _ (.tail _ (.tail _ (.head _)))),
    cell_of_shapedOpen_int (zero := #[.int .i64 0]) (t := 3) hsh (of_decide_eq_true (by kernel_rfl)) (by kernel_rfl) rfl (by kernel_rfl) (by kernel_rfl) Tryd.underlying3⟩
  have hsz : (DataW.weightsEach Tryd.prog (Tryd.f4.params.toList ++ Rows.fnExactWorkerOKSpec.plain.varTypes Tryd.prog) (ds ++ gs)).all (· ≤ reachBytes) = true := hsz0
  have hval : ∀ (j : Nat) t v, Tryd.f4.params[j]? = some t → args[j]? = some v → Value.okWide Tryd.prog W .any base t v := hval0
  have hW' := hW
  obtain ⟨p, q, hA0, hV, rfl, hfz, hnd⟩ := hW
  have hA : DataW.TrodAll enc Tryd.prog W 0 (fun _ => true) true Tryd.f4.params.toList args.toList ds p := hA0
  rw [Tryd.params4] at hA hval hsz
  obtain ⟨v0, vs0, d0, ds0, p0, q0, hargs, rfl, rfl, h0, r0⟩ := trodAll_cons hA
  obtain ⟨rfl, rfl, rfl⟩ := trodAll_nil r0
  obtain rfl : args = #[v0] := by cases args; simp_all
  obtain ⟨rfl, rfl⟩ := trodVars_none hV
  obtain ⟨cs0, rfl, _⟩ := okWide_struct Tryd.underlying44 (hval 0 44 v0 rfl rfl)
  have k0 := h0
  have lt0 : ∀ x ∈ p0, x.block < W.heap.size := by obtain ⟨m, hm⟩ := k0; exact DataW.trod_lt m _ _ _ hm
  obtain ⟨x0, hK0, ok0⟩ := opn_arg opnA0 hsz (j := 0) (t := 44) rfl rfl h0
  generalize hL0 : (Value.agg cs0).cells.toList = L0 at hK0
  obtain ⟨a0_0, ⟨a0_1, ⟨a0_2, ⟨⟨a0_3, ⟨a0_4, ⟨a0_5, ⟨a0_6, ⟨a0_7, a0_8⟩⟩⟩⟩⟩, ⟨l0_9, ⟨a0_10, ⟨a0_11, ⟨a0_12, ⟨a0_13, ⟨a0_14, a0_15⟩⟩⟩⟩⟩⟩⟩⟩⟩⟩ := x0
  obtain ⟨_, _, rfl, rfl, ⟨_, _, rfl, rfl, ⟨_, _, rfl, rfl, ⟨_, _, rfl, ⟨_, _, rfl, rfl, ⟨_, _, rfl, rfl, ⟨_, _, rfl, rfl, ⟨_, _, rfl, rfl, ⟨_, _, rfl, rfl, rfl⟩⟩⟩⟩⟩, ⟨_, _, rfl, ⟨A0_9, c0_9, rfl, hc0_9, hr0_9⟩, ⟨_, _, rfl, rfl, ⟨_, _, rfl, rfl, ⟨_, _, rfl, rfl, ⟨_, _, rfl, rfl, ⟨_, _, rfl, rfl, rfl⟩⟩⟩⟩⟩⟩⟩⟩⟩⟩ := hK0
  obtain rfl : cs0 = #[.int .i64 a0_0, .int .i64 a0_1, .int .i64 a0_2, .int .i64 a0_3, .int .i64 a0_4, .int .i64 a0_5, .int .i64 a0_6, .int .i64 a0_7, .string a0_8, .slice A0_9 l0_9.length c0_9, .int .i64 a0_10, .int .i64 a0_11, .int .i64 a0_12, .int .i64 a0_13, .int .i64 a0_14, .int .i64 a0_15] := by apply Array.ext'; simpa [Value.cells] using hL0
  clear hL0
  obtain ⟨ok0_0, ⟨ok0_1, ⟨ok0_2, ⟨⟨ok0_3, ⟨ok0_4, ⟨ok0_5, ⟨ok0_6, ⟨ok0_7, ok0_8⟩⟩⟩⟩⟩, ⟨ok0_9, ⟨ok0_10, ⟨ok0_11, ⟨ok0_12, ⟨ok0_13, ⟨ok0_14, ok0_15⟩⟩⟩⟩⟩⟩⟩⟩⟩⟩ := ok0
  clear hA0 hval0 hsz0 hsz hL0 hL hsh
  obtain ⟨k, h⟩ := Pure.FnExactWorkerOK a0_0 a0_1 a0_2 a0_3 a0_4 a0_5 a0_6 a0_7 a0_8 l0_9 a0_10 a0_11 a0_12 a0_13 a0_14 a0_15 ok0_0 ok0_1 ok0_2 ok0_3 ok0_4 ok0_5 ok0_6 ok0_7 ok0_8 ok0_9 ok0_10 ok0_11 ok0_12 ok0_13 ok0_14 ok0_15
  refine (laws_FnExactWorkerOK.calls k a0_0 a0_1 a0_2 a0_3 a0_4 a0_5 a0_6 a0_7 a0_8 _ _ l0_9 a0_10 a0_11 a0_12 a0_13 a0_14 a0_15 true W hvars hr0_9 hc0_9 h).mono fun e W' ⟨he, bel0⟩ => ?_
  have bel : Below W.heap.size W W' := bel0
  subst he
  exact ⟨_, rfl, _, _, _, [], _, [], hW', trodAll_mk1 (shut_bool Tryd.underlying4 _), (trodAll_cons_mk (Below.trod laidOut (by kernel_rfl) (of_decide_eq_true (by kernel_rfl)) k0 bel lt0) trodAll_mk0), rfl, bel.frame _, fun h => by cases h⟩
theorem closed : joinedFacts Tryd.pinned.checked.prog 4 Tryd.f4 Rows.fnExactWorkerOKSpec Rows.fnExactWorkerOKRow = true := by kernel_rfl
theorem inst_ : Tryd.f4.isInstance Tryd.pinned.checked.prog Rows.fnExactWorkerOKRow.origin Rows.fnExactWorkerOKRow.targs := of_decide_eq_true (by kernel_rfl)
theorem named_ : Tryd.pinned.checked.prog.funcNamed Rows.fnExactWorkerOKRow.func = some 4 := by kernel_rfl
theorem wrap_ : Tryd.f4.isWrapper Tryd.pinned.checked.prog Rows.fnExactWorkerOKRow.wrapper Rows.fnExactWorkerOKRow.mainSum := by unfold Func.isWrapper; first | (rw [if_pos (by decide +kernel)]; kernel_rfl) | (rw [if_neg (by decide +kernel)]; exact ⟨rfl, rfl⟩)
theorem over : Rows.fnExactWorkerOKRow.holds Tryd.pinned (OpenSpec.ofChange Rows.fnExactWorkerOKSpec) :=
  OpenClaim.holds_of_wide 4 Tryd.f4 rfl rfl rfl rfl rfl rfl rfl ⟨rfl, rfl, rfl, rfl, rfl⟩ rfl rfl rfl rfl rfl named_ Tryd.func4 closed
    inst_ wrap_
    (fun os started H enc _ => lifted os started H enc)
theorem proved : Rows.FnExactWorkerOKSaid := over
theorem card_holds : Rows.FnExactWorkerOKCardSaid :=
  Claim7.holds_tied_plain_at .later [] [.data, .data, .data, .sentinel, .sentinel] true (true, "73e542857238418574b4f4449bf75f0aebce91033fb9fc1f2229ef47e71c9419") true proved (fun _ h => by cases h) (by kernel_rfl) (fun _ h => by cases h) fnExactWorkerOK_row_tie rfl ⟨rfl, rfl⟩ (by kernel_rfl) rfl
    (fun f fn hf hfn => by
      obtain rfl : f = 4 := Option.some.inj ((show Tryd.prog.funcNamed "loop.example/g00601/laws.FnExactWorkerOK" = some 4 by kernel_rfl).symm.trans hf) |>.symm
      obtain rfl : fn = Tryd.f4 := (Option.some.inj (Tryd.func4.symm.trans hfn)).symm
      exact ⟨by kernel_rfl, fun j t ht => by
        rw [Tryd.params4] at ht
        have hm : t ∈ [44] := by simpa using Array.mem_of_getElem? ht
        have hall : ([44].all fun u => !Tryd.prog.wantsStandIn u) = true := by kernel_rfl
        exact (show Tryd.prog.wantsStandIn t = false by simpa using List.all_eq_true.1 hall t hm)⟩)
    (by kernel_rfl)
#print axioms card_holds
end Go.Proofs.YtleifhnoaaphmaaDoor.fnExactWorkerOK
namespace Go.Proofs.YtleifhnoaaphmaaDoor
/-- The row, under a short name, for the claim. -/
theorem fnExactWorkerOK_holds : Rows.FnExactWorkerOKCardSaid := fnExactWorkerOK.card_holds
end Go.Proofs.YtleifhnoaaphmaaDoor
