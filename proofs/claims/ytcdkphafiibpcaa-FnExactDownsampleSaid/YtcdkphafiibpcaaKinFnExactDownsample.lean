/- The pure statement of FnExactDownsample, and what its arguments read as. -/
import Derived.Test.YtcdkphafiibpcaaXFnExactDownsamplex
import Derived.Test.YtcdkphafiibpcaaOpn
namespace Go.Proofs.Ytcdkphafiibpcaa.XFnExactDownsample
open Go.RowKit Go.Proofs.YtcdkphafiibpcaaO Go.Proofs.YtcdkphafiibpcaaW.PrintWords
set_option linter.unusedVariables false
theorem cn3 : Try.prog.cellsOf 3 = 1 := by kernel_rfl
theorem cn91 : Try.prog.cellsOf 91 = 2 := by kernel_rfl
theorem bn91 : Try.prog.bytesOf 91 = 16 := by kernel_rfl
def ok91 (x : S91) : Prop := (Lit.int .i64 x.f0).wf = true ∧ (Lit.int .i64 x.f1).wf = true
theorem opn91 : Opn Try.prog 91 k91 ok91 :=
  opn_mono (opn_iso (opn_struct (l := [(3, 0), (3, 1)]) Try.underlying91 rfl (by kernel_rfl) (opn_more (o' := 1) cn3 (opn_int Try.underlying3) (opn_one (opn_int Try.underlying3)) rfl (by decide))) (fun x : S91 => (x.f0, x.f1)) (fun a => ⟨a.1, a.2⟩) (fun _ => rfl)) (fun _ h => h)
theorem opnA0 : Opn Try.prog 34 (Kd.slice 91 k91) (fun x => (x.length ≤ maxLen ∧ x.length * 16 ≤ 140737488351232 ∧ ∀ y ∈ x, ok91 y)) := (opn_slice Try.underlying34 (by rw [cn91]; rfl) bn91 opn91)
def laws_FnExactDownsample.Pure : Prop := ∀ (l0 : List S91) (a1 : Int) (a2 : Int), (l0.length ≤ maxLen ∧ l0.length * 16 ≤ 140737488351232 ∧ ∀ y ∈ l0, ok91 y) → (Lit.int .i64 a1).wf = true → (Lit.int .i64 a2).wf = true → ∃ k, laws_FnExactDownsample.f k l0 a1 a2 = some true
end Go.Proofs.Ytcdkphafiibpcaa.XFnExactDownsample
