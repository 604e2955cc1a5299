/- The pure statement of FnExactSameStore, and what its arguments read as. -/
import Derived.Test.YtllpmcoknljhcaaXFnExactSameStorex
import Derived.Test.YtllpmcoknljhcaaOpn
namespace Go.Proofs.Ytllpmcoknljhcaa.XFnExactSameStore
open Go.RowKit Go.Proofs.YtllpmcoknljhcaaO Go.Proofs.YtllpmcoknljhcaaW.PrintWords
set_option linter.unusedVariables false
theorem cn3 : Try.prog.cellsOf 3 = 1 := by kernel_rfl
theorem cn9 : Try.prog.cellsOf 9 = 1 := by kernel_rfl
theorem cn59 : Try.prog.cellsOf 59 = 1 := by kernel_rfl
theorem cn190 : Try.prog.cellsOf 190 = 3 := by kernel_rfl
theorem bn190 : Try.prog.bytesOf 190 = 40 := by kernel_rfl
def ok190 (x : S190) : Prop := x.f0.size ≤ 140737488351232 ∧ (Lit.int .i64 x.f1).wf = true ∧ x.f2.size ≤ 140737488351232
theorem opn190 : Opn Try.prog 190 k190 ok190 :=
  opn_mono (opn_iso (opn_struct (l := [(9, 0), (3, 1), (9, 2)]) Try.underlying190 rfl (by kernel_rfl) (opn_more (o' := 1) cn9 (opn_string Try.underlying9) (opn_more (o' := 2) cn3 (opn_int Try.underlying3) (opn_one (opn_string Try.underlying9)) rfl (by decide)) rfl (by decide))) (fun x : S190 => (x.f0, x.f1, x.f2)) (fun a => ⟨a.1, a.2.1, a.2.2⟩) (fun _ => rfl)) (fun _ h => h)
theorem opnA0 : Opn Try.prog 61 (Kd.pair (Kd.slice 190 k190) (Kd.int .i64)) (fun x => ((x.1.length ≤ maxLen ∧ x.1.length * 40 ≤ 140737488351232 ∧ ∀ y ∈ x.1, ok190 y) ∧ (Lit.int .i64 x.2).wf = true)) := (opn_struct (l := [(59, 0), (3, 1)]) Try.underlying61 rfl (by kernel_rfl) (opn_more (o' := 1) cn59 (opn_slice Try.underlying59 (by rw [cn190]; rfl) bn190 opn190) (opn_one (opn_int Try.underlying3)) rfl (by decide)))
theorem opnA1 : Opn Try.prog 61 (Kd.pair (Kd.slice 190 k190) (Kd.int .i64)) (fun x => ((x.1.length ≤ maxLen ∧ x.1.length * 40 ≤ 140737488351232 ∧ ∀ y ∈ x.1, ok190 y) ∧ (Lit.int .i64 x.2).wf = true)) := (opn_struct (l := [(59, 0), (3, 1)]) Try.underlying61 rfl (by kernel_rfl) (opn_more (o' := 1) cn59 (opn_slice Try.underlying59 (by rw [cn190]; rfl) bn190 opn190) (opn_one (opn_int Try.underlying3)) rfl (by decide)))
def laws_FnExactSameStore.Pure : Prop := ∀ (l0_0 : List S190) (a0_1 : Int) (l1_0 : List S190) (a1_1 : Int), (l0_0.length ≤ maxLen ∧ l0_0.length * 40 ≤ 140737488351232 ∧ ∀ y ∈ l0_0, ok190 y) → (Lit.int .i64 a0_1).wf = true → (l1_0.length ≤ maxLen ∧ l1_0.length * 40 ≤ 140737488351232 ∧ ∀ y ∈ l1_0, ok190 y) → (Lit.int .i64 a1_1).wf = true → ∃ k, laws_FnExactSameStore.f k l0_0 a0_1 l1_0 a1_1 = some true
end Go.Proofs.Ytllpmcoknljhcaa.XFnExactSameStore
