/- The pure statement of FnExactRecordOK, and what its arguments read as. -/
import Derived.Test.YtbdhpmamlibmhaaDoorXFnExactRecordOKx
import Derived.Test.YtbdhpmamlibmhaaDoorOpn
namespace Go.Proofs.YtbdhpmamlibmhaaDoor.XFnExactRecordOK
open Go.RowKit Go.Proofs.YtbdhpmamlibmhaaDoorO Go.Proofs.YtbdhpmamlibmhaaDoorW.PrintWords
set_option linter.unusedVariables false
theorem cn3 : Tryd.prog.cellsOf 3 = 1 := by kernel_rfl
theorem opnA0 : Opn Tryd.prog 60 (Kd.pair (Kd.int .i64) (Kd.pair (Kd.int .i64) (Kd.pair (Kd.int .i64) (Kd.pair (Kd.int .i64) (Kd.pair (Kd.int .i64) Kd.string))))) (fun x => ((Lit.int .i64 x.1).wf = true ∧ ((Lit.int .i64 x.2.1).wf = true ∧ ((Lit.int .i64 x.2.2.1).wf = true ∧ ((Lit.int .i64 x.2.2.2.1).wf = true ∧ ((Lit.int .i64 x.2.2.2.2.1).wf = true ∧ x.2.2.2.2.2.size ≤ 140737488351232)))))) := (opn_struct (l := [(3, 0), (3, 1), (3, 2), (3, 3), (3, 4), (9, 5)]) Tryd.underlying60 rfl (by kernel_rfl) (opn_more (o' := 1) cn3 (opn_int Tryd.underlying3) (opn_more (o' := 2) cn3 (opn_int Tryd.underlying3) (opn_more (o' := 3) cn3 (opn_int Tryd.underlying3) (opn_more (o' := 4) cn3 (opn_int Tryd.underlying3) (opn_more (o' := 5) cn3 (opn_int Tryd.underlying3) (opn_one (opn_string Tryd.underlying9)) rfl (by decide)) rfl (by decide)) rfl (by decide)) rfl (by decide)) rfl (by decide)))
def laws_FnExactRecordOK.Pure : Prop := ∀ (a0_0 : Int) (a0_1 : Int) (a0_2 : Int) (a0_3 : Int) (a0_4 : Int) (a0_5 : ByteArray), (Lit.int .i64 a0_0).wf = true → (Lit.int .i64 a0_1).wf = true → (Lit.int .i64 a0_2).wf = true → (Lit.int .i64 a0_3).wf = true → (Lit.int .i64 a0_4).wf = true → a0_5.size ≤ 140737488351232 → ∃ k, laws_FnExactRecordOK.f k a0_0 a0_1 a0_2 a0_3 a0_4 a0_5 = some true
end Go.Proofs.YtbdhpmamlibmhaaDoor.XFnExactRecordOK
