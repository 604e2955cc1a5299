/- The pure statement of FnExactWindowOf, and what its arguments read as. -/
import Derived.Test.YtleifhnoaaphmaaGreatDoorXFnExactWindowOfx
import Derived.Test.YtleifhnoaaphmaaGreatDoorOpn
namespace Go.Proofs.YtleifhnoaaphmaaGreatDoor.XFnExactWindowOf
open Go.RowKit Go.Proofs.YtleifhnoaaphmaaGreatDoorO Go.Proofs.YtleifhnoaaphmaaGreatDoorW.PrintWords
set_option linter.unusedVariables false
theorem cn3 : Tryz.prog.cellsOf 3 = 1 := by kernel_rfl
theorem opnA0 : Opn Tryz.prog 23 (Kd.pair (Kd.int .i64) (Kd.pair (Kd.int .i64) (Kd.pair (Kd.int .i64) Kd.string))) (fun x => ((Lit.int .i64 x.1).wf = true ∧ ((Lit.int .i64 x.2.1).wf = true ∧ ((Lit.int .i64 x.2.2.1).wf = true ∧ x.2.2.2.size ≤ 140737488351232)))) := (opn_struct (l := [(3, 0), (3, 1), (3, 2), (9, 3)]) Tryz.underlying23 rfl (by kernel_rfl) (opn_more (o' := 1) cn3 (opn_int Tryz.underlying3) (opn_more (o' := 2) cn3 (opn_int Tryz.underlying3) (opn_more (o' := 3) cn3 (opn_int Tryz.underlying3) (opn_one (opn_string Tryz.underlying9)) rfl (by decide)) rfl (by decide)) rfl (by decide)))
def laws_FnExactWindowOf.Pure : Prop := ∀ (a0_0 : Int) (a0_1 : Int) (a0_2 : Int) (a0_3 : ByteArray) (a1 : ByteArray) (a2 : Int) (a3 : Int), (Lit.int .i64 a0_0).wf = true → (Lit.int .i64 a0_1).wf = true → (Lit.int .i64 a0_2).wf = true → a0_3.size ≤ 140737488351232 → a1.size ≤ 140737488351232 → (Lit.int .i64 a2).wf = true → (Lit.int .i64 a3).wf = true → ∃ k, laws_FnExactWindowOf.f k a0_0 a0_1 a0_2 a0_3 a1 a2 a3 = some true
end Go.Proofs.YtleifhnoaaphmaaGreatDoor.XFnExactWindowOf
