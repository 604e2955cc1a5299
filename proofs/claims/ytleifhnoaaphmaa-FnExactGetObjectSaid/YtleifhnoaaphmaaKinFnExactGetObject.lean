/- The pure statement of FnExactGetObject, and what its arguments read as. -/
import Derived.Test.YtleifhnoaaphmaaXFnExactGetObjectx
import Derived.Test.YtleifhnoaaphmaaOpn
namespace Go.Proofs.Ytleifhnoaaphmaa.XFnExactGetObject
open Go.RowKit Go.Proofs.YtleifhnoaaphmaaO Go.Proofs.YtleifhnoaaphmaaW.PrintWords
set_option linter.unusedVariables false
theorem cn3 : Try.prog.cellsOf 3 = 1 := by kernel_rfl
theorem cn9 : Try.prog.cellsOf 9 = 1 := by kernel_rfl
theorem cn22 : Try.prog.cellsOf 22 = 1 := by kernel_rfl
theorem cn47 : Try.prog.cellsOf 47 = 3 := by kernel_rfl
theorem bn47 : Try.prog.bytesOf 47 = 40 := by kernel_rfl
def ok47 (x : S47) : Prop := x.f0.size ≤ 140737488351232 ∧ (Lit.int .i64 x.f1).wf = true ∧ x.f2.size ≤ 140737488351232
theorem opn47 : Opn Try.prog 47 k47 ok47 :=
  opn_mono (opn_iso (opn_struct (l := [(9, 0), (3, 1), (9, 2)]) Try.underlying47 rfl (by kernel_rfl) (opn_more (o' := 1) cn9 (opn_string Try.underlying9) (opn_more (o' := 2) cn3 (opn_int Try.underlying3) (opn_one (opn_string Try.underlying9)) rfl (by decide)) rfl (by decide))) (fun x : S47 => (x.f0, x.f1, x.f2)) (fun a => ⟨a.1, a.2.1, a.2.2⟩) (fun _ => rfl)) (fun _ h => h)
theorem opnA0 : Opn Try.prog 24 (Kd.pair (Kd.slice 47 k47) (Kd.int .i64)) (fun x => ((x.1.length ≤ maxLen ∧ x.1.length * 40 ≤ 140737488351232 ∧ ∀ y ∈ x.1, ok47 y) ∧ (Lit.int .i64 x.2).wf = true)) := (opn_struct (l := [(22, 0), (3, 1)]) Try.underlying24 rfl (by kernel_rfl) (opn_more (o' := 1) cn22 (opn_slice Try.underlying22 (by rw [cn47]; rfl) bn47 opn47) (opn_one (opn_int Try.underlying3)) rfl (by decide)))
def laws_FnExactGetObject.Pure : Prop := ∀ (l0_0 : List S47) (a0_1 : Int) (a1 : ByteArray), (l0_0.length ≤ maxLen ∧ l0_0.length * 40 ≤ 140737488351232 ∧ ∀ y ∈ l0_0, ok47 y) → (Lit.int .i64 a0_1).wf = true → a1.size ≤ 140737488351232 → ∃ k, laws_FnExactGetObject.f k l0_0 a0_1 a1 = some true
end Go.Proofs.Ytleifhnoaaphmaa.XFnExactGetObject
