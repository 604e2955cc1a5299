/- The pure statement of FnExactAggOf, and what its arguments read as. -/
import Derived.Test.YtllpmcoknljhcaaXFnExactAggOfx
import Derived.Test.YtllpmcoknljhcaaOpn
namespace Go.Proofs.Ytllpmcoknljhcaa.XFnExactAggOf
open Go.RowKit Go.Proofs.YtllpmcoknljhcaaO Go.Proofs.YtllpmcoknljhcaaW.PrintWords
set_option linter.unusedVariables false
theorem cn3 : Try.prog.cellsOf 3 = 1 := by kernel_rfl
theorem cn139 : Try.prog.cellsOf 139 = 2 := by kernel_rfl
theorem bn139 : Try.prog.bytesOf 139 = 16 := by kernel_rfl
def ok139 (x : S139) : Prop := (Lit.int .i64 x.f0).wf = true ∧ (Lit.int .i64 x.f1).wf = true
theorem opn139 : Opn Try.prog 139 k139 ok139 :=
  opn_mono (opn_iso (opn_struct (l := [(3, 0), (3, 1)]) Try.underlying139 rfl (by kernel_rfl) (opn_more (o' := 1) cn3 (opn_int Try.underlying3) (opn_one (opn_int Try.underlying3)) rfl (by decide))) (fun x : S139 => (x.f0, x.f1)) (fun a => ⟨a.1, a.2⟩) (fun _ => rfl)) (fun _ h => h)
theorem opnA0 : Opn Try.prog 29 (Kd.slice 139 k139) (fun x => (x.length ≤ maxLen ∧ x.length * 16 ≤ 140737488351232 ∧ ∀ y ∈ x, ok139 y)) := (opn_slice Try.underlying29 (by rw [cn139]; rfl) bn139 opn139)
def laws_FnExactAggOf.Pure : Prop := ∀ (l0 : List S139), (l0.length ≤ maxLen ∧ l0.length * 16 ≤ 140737488351232 ∧ ∀ y ∈ l0, ok139 y) → ∃ k, laws_FnExactAggOf.f k l0 = some true
end Go.Proofs.Ytllpmcoknljhcaa.XFnExactAggOf
