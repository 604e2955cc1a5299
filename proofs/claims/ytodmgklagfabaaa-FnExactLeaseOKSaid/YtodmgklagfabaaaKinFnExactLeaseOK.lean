/- The pure statement of FnExactLeaseOK, and what its arguments read as. -/
import Derived.Test.YtodmgklagfabaaaXFnExactLeaseOKx
import Derived.Test.YtodmgklagfabaaaOpn
namespace Go.Proofs.Ytodmgklagfabaaa.XFnExactLeaseOK
open Go.RowKit Go.Proofs.YtodmgklagfabaaaO Go.Proofs.YtodmgklagfabaaaW.PrintWords
set_option linter.unusedVariables false
theorem cn3 : Try.prog.cellsOf 3 = 1 := by kernel_rfl
theorem opnA0 : Opn Try.prog 24 (Kd.pair (Kd.int .i64) (Kd.pair (Kd.int .i64) (Kd.int .i64))) (fun x => ((Lit.int .i64 x.1).wf = true ∧ ((Lit.int .i64 x.2.1).wf = true ∧ (Lit.int .i64 x.2.2).wf = true))) := (opn_struct (l := [(3, 0), (3, 1), (3, 2)]) Try.underlying24 rfl (by kernel_rfl) (opn_more (o' := 1) cn3 (opn_int Try.underlying3) (opn_more (o' := 2) cn3 (opn_int Try.underlying3) (opn_one (opn_int Try.underlying3)) rfl (by decide)) rfl (by decide)))
def laws_FnExactLeaseOK.Pure : Prop := ∀ (a0_0 : Int) (a0_1 : Int) (a0_2 : Int), (Lit.int .i64 a0_0).wf = true → (Lit.int .i64 a0_1).wf = true → (Lit.int .i64 a0_2).wf = true → laws_FnExactLeaseOK.f a0_0 a0_1 a0_2 = some true
end Go.Proofs.Ytodmgklagfabaaa.XFnExactLeaseOK
