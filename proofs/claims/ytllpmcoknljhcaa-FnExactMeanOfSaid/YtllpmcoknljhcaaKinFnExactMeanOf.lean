/- The pure statement of FnExactMeanOf, and what its arguments read as. -/
import Derived.Test.YtllpmcoknljhcaaXFnExactMeanOfx
import Derived.Test.YtllpmcoknljhcaaOpn
namespace Go.Proofs.Ytllpmcoknljhcaa.XFnExactMeanOf
open Go.RowKit Go.Proofs.YtllpmcoknljhcaaO Go.Proofs.YtllpmcoknljhcaaW.PrintWords
set_option linter.unusedVariables false
theorem cn3 : Try.prog.cellsOf 3 = 1 := by kernel_rfl
theorem opnA0 : Opn Try.prog 23 (Kd.pair (Kd.int .i64) (Kd.pair (Kd.int .i64) (Kd.pair (Kd.int .i64) (Kd.pair (Kd.int .i64) (Kd.pair (Kd.int .i64) (Kd.int .i64)))))) (fun x => ((Lit.int .i64 x.1).wf = true ∧ ((Lit.int .i64 x.2.1).wf = true ∧ ((Lit.int .i64 x.2.2.1).wf = true ∧ ((Lit.int .i64 x.2.2.2.1).wf = true ∧ ((Lit.int .i64 x.2.2.2.2.1).wf = true ∧ (Lit.int .i64 x.2.2.2.2.2).wf = true)))))) := (opn_struct (l := [(3, 0), (3, 1), (3, 2), (3, 3), (3, 4), (3, 5)]) Try.underlying23 rfl (by kernel_rfl) (opn_more (o' := 1) cn3 (opn_int Try.underlying3) (opn_more (o' := 2) cn3 (opn_int Try.underlying3) (opn_more (o' := 3) cn3 (opn_int Try.underlying3) (opn_more (o' := 4) cn3 (opn_int Try.underlying3) (opn_more (o' := 5) cn3 (opn_int Try.underlying3) (opn_one (opn_int Try.underlying3)) rfl (by decide)) rfl (by decide)) rfl (by decide)) rfl (by decide)) rfl (by decide)))
def laws_FnExactMeanOf.Pure : Prop := ∀ (a0_0 : Int) (a0_1 : Int) (a0_2 : Int) (a0_3 : Int) (a0_4 : Int) (a0_5 : Int), (Lit.int .i64 a0_0).wf = true → (Lit.int .i64 a0_1).wf = true → (Lit.int .i64 a0_2).wf = true → (Lit.int .i64 a0_3).wf = true → (Lit.int .i64 a0_4).wf = true → (Lit.int .i64 a0_5).wf = true → ∃ k, laws_FnExactMeanOf.f k a0_0 a0_1 a0_2 a0_3 a0_4 a0_5 = some true
end Go.Proofs.Ytllpmcoknljhcaa.XFnExactMeanOf
