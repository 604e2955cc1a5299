/- The pure statement of FnExactStoreOK, and what its arguments read as. -/
import Derived.Test.YteiolcfgaklafaaXFnExactStoreOKx
import Derived.Test.YteiolcfgaklafaaOpn
namespace Go.Proofs.Yteiolcfgaklafaa.XFnExactStoreOK
open Go.RowKit Go.Proofs.YteiolcfgaklafaaO Go.Proofs.YteiolcfgaklafaaW.PrintWords
set_option linter.unusedVariables false
theorem cn3 : Try.prog.cellsOf 3 = 1 := by kernel_rfl
theorem cn9 : Try.prog.cellsOf 9 = 1 := by kernel_rfl
theorem cn39 : Try.prog.cellsOf 39 = 1 := by kernel_rfl
theorem cn137 : Try.prog.cellsOf 137 = 3 := by kernel_rfl
theorem bn137 : Try.prog.bytesOf 137 = 40 := by kernel_rfl
def ok137 (x : S137) : Prop := x.f0.size ≤ 140737488351232 ∧ (Lit.int .i64 x.f1).wf = true ∧ x.f2.size ≤ 140737488351232
theorem opn137 : Opn Try.prog 137 k137 ok137 :=
  opn_mono (opn_iso (opn_struct (l := [(9, 0), (3, 1), (9, 2)]) Try.underlying137 rfl (by kernel_rfl) (opn_more (o' := 1) cn9 (opn_string Try.underlying9) (opn_more (o' := 2) cn3 (opn_int Try.underlying3) (opn_one (opn_string Try.underlying9)) rfl (by decide)) rfl (by decide))) (fun x : S137 => (x.f0, x.f1, x.f2)) (fun a => ⟨a.1, a.2.1, a.2.2⟩) (fun _ => rfl)) (fun _ h => h)
theorem opnA0 : Opn Try.prog 41 (Kd.pair (Kd.slice 137 k137) (Kd.int .i64)) (fun x => ((x.1.length ≤ maxLen ∧ x.1.length * 40 ≤ 140737488351232 ∧ ∀ y ∈ x.1, ok137 y) ∧ (Lit.int .i64 x.2).wf = true)) := (opn_struct (l := [(39, 0), (3, 1)]) Try.underlying41 rfl (by kernel_rfl) (opn_more (o' := 1) cn39 (opn_slice Try.underlying39 (by rw [cn137]; rfl) bn137 opn137) (opn_one (opn_int Try.underlying3)) rfl (by decide)))
def laws_FnExactStoreOK.Pure : Prop := ∀ (l0_0 : List S137) (a0_1 : Int), (l0_0.length ≤ maxLen ∧ l0_0.length * 40 ≤ 140737488351232 ∧ ∀ y ∈ l0_0, ok137 y) → (Lit.int .i64 a0_1).wf = true → ∃ k, laws_FnExactStoreOK.f k l0_0 a0_1 = some true
end Go.Proofs.Yteiolcfgaklafaa.XFnExactStoreOK
