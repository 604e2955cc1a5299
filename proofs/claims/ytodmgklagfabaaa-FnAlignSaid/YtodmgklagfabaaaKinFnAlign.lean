/- The pure statement of FnAlign, and what its arguments read as. -/
import Derived.Test.YtodmgklagfabaaaXFnAlignx
import Derived.Test.YtodmgklagfabaaaOpn
namespace Go.Proofs.Ytodmgklagfabaaa.XFnAlign
open Go.RowKit Go.Proofs.YtodmgklagfabaaaO Go.Proofs.YtodmgklagfabaaaW.PrintWords
set_option linter.unusedVariables false
theorem cn5 : Try.prog.cellsOf 5 = 1 := by kernel_rfl
theorem bn5 : Try.prog.bytesOf 5 = 1 := by kernel_rfl
theorem opnA0 : Opn Try.prog 43 (Kd.slice 5 (Kd.int .u8)) (fun x => (x.length ≤ maxLen ∧ x.length * 1 ≤ 140737488351232 ∧ ∀ y ∈ x, (Lit.int .u8 y).wf = true)) := (opn_slice Try.underlying43 (by rw [cn5]; rfl) bn5 (opn_int Try.underlying5))
def laws_FnAlign.Pure : Prop := ∀ (l0 : List Int), (l0.length ≤ maxLen ∧ l0.length * 1 ≤ 140737488351232 ∧ ∀ y ∈ l0, (Lit.int .u8 y).wf = true) → ∃ k, laws_FnAlign.f k l0 = some true
end Go.Proofs.Ytodmgklagfabaaa.XFnAlign
