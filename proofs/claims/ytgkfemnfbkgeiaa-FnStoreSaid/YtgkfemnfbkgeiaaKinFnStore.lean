/- The pure statement of FnStore, and what its arguments read as. -/
import Derived.Test.YtgkfemnfbkgeiaaXFnStorex
import Derived.Test.YtgkfemnfbkgeiaaOpn
namespace Go.Proofs.Ytgkfemnfbkgeiaa.XFnStore
open Go.RowKit Go.Proofs.YtgkfemnfbkgeiaaO Go.Proofs.YtgkfemnfbkgeiaaW.PrintWords
set_option linter.unusedVariables false
theorem cn5 : Try.prog.cellsOf 5 = 1 := by kernel_rfl
theorem bn5 : Try.prog.bytesOf 5 = 1 := by kernel_rfl
theorem opnA0 : Opn Try.prog 22 (Kd.slice 5 (Kd.int .u8)) (fun x => (x.length ≤ maxLen ∧ x.length * 1 ≤ 140737488351232 ∧ ∀ y ∈ x, (Lit.int .u8 y).wf = true)) := (opn_slice Try.underlying22 (by rw [cn5]; rfl) bn5 (opn_int Try.underlying5))
theorem opnA1 : Opn Try.prog 22 (Kd.slice 5 (Kd.int .u8)) (fun x => (x.length ≤ maxLen ∧ x.length * 1 ≤ 140737488351232 ∧ ∀ y ∈ x, (Lit.int .u8 y).wf = true)) := (opn_slice Try.underlying22 (by rw [cn5]; rfl) bn5 (opn_int Try.underlying5))
def laws_FnStore.Pure : Prop := ∀ (l0 : List Int) (l1 : List Int), (l0.length ≤ maxLen ∧ l0.length * 1 ≤ 140737488351232 ∧ ∀ y ∈ l0, (Lit.int .u8 y).wf = true) → (l1.length ≤ maxLen ∧ l1.length * 1 ≤ 140737488351232 ∧ ∀ y ∈ l1, (Lit.int .u8 y).wf = true) → ∃ k, laws_FnStore.f k l0 l1 = some true
end Go.Proofs.Ytgkfemnfbkgeiaa.XFnStore
