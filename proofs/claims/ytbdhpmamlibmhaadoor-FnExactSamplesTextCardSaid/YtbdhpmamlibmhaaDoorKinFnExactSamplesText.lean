/- The pure statement of FnExactSamplesText, and what its arguments read as. -/
import Derived.Test.YtbdhpmamlibmhaaDoorXFnExactSamplesTextx
import Derived.Test.YtbdhpmamlibmhaaDoorOpn
namespace Go.Proofs.YtbdhpmamlibmhaaDoor.XFnExactSamplesText
open Go.RowKit Go.Proofs.YtbdhpmamlibmhaaDoorO Go.Proofs.YtbdhpmamlibmhaaDoorW.PrintWords
set_option linter.unusedVariables false
theorem cn3 : Tryd.prog.cellsOf 3 = 1 := by kernel_rfl
theorem cn72 : Tryd.prog.cellsOf 72 = 2 := by kernel_rfl
theorem bn72 : Tryd.prog.bytesOf 72 = 16 := by kernel_rfl
def ok72 (x : S72) : Prop := (Lit.int .i64 x.f0).wf = true ∧ (Lit.int .i64 x.f1).wf = true
theorem opn72 : Opn Tryd.prog 72 k72 ok72 :=
  opn_mono (opn_iso (opn_struct (l := [(3, 0), (3, 1)]) Tryd.underlying72 rfl (by kernel_rfl) (opn_more (o' := 1) cn3 (opn_int Tryd.underlying3) (opn_one (opn_int Tryd.underlying3)) rfl (by decide))) (fun x : S72 => (x.f0, x.f1)) (fun a => ⟨a.1, a.2⟩) (fun _ => rfl)) (fun _ h => h)
theorem opnA0 : Opn Tryd.prog 27 (Kd.slice 72 k72) (fun x => (x.length ≤ maxLen ∧ x.length * 16 ≤ 140737488351232 ∧ ∀ y ∈ x, ok72 y)) := (opn_slice Tryd.underlying27 (by rw [cn72]; rfl) bn72 opn72)
def laws_FnExactSamplesText.Pure : Prop := ∀ (l0 : List S72), (l0.length ≤ maxLen ∧ l0.length * 16 ≤ 140737488351232 ∧ ∀ y ∈ l0, ok72 y) → ∃ k, laws_FnExactSamplesText.f k l0 = some true
end Go.Proofs.YtbdhpmamlibmhaaDoor.XFnExactSamplesText
