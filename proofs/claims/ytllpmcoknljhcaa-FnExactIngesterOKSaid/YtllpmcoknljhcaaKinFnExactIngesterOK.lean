/- The pure statement of FnExactIngesterOK, and what its arguments read as. -/
import Derived.Test.YtllpmcoknljhcaaXFnExactIngesterOKx
import Derived.Test.YtllpmcoknljhcaaOpn
namespace Go.Proofs.Ytllpmcoknljhcaa.XFnExactIngesterOK
open Go.RowKit Go.Proofs.YtllpmcoknljhcaaO Go.Proofs.YtllpmcoknljhcaaW.PrintWords
set_option linter.unusedVariables false
theorem cn3 : Try.prog.cellsOf 3 = 1 := by kernel_rfl
theorem cn29 : Try.prog.cellsOf 29 = 1 := by kernel_rfl
theorem cn139 : Try.prog.cellsOf 139 = 2 := by kernel_rfl
theorem bn139 : Try.prog.bytesOf 139 = 16 := by kernel_rfl
def ok139 (x : S139) : Prop := (Lit.int .i64 x.f0).wf = true ∧ (Lit.int .i64 x.f1).wf = true
theorem opn139 : Opn Try.prog 139 k139 ok139 :=
  opn_mono (opn_iso (opn_struct (l := [(3, 0), (3, 1)]) Try.underlying139 rfl (by kernel_rfl) (opn_more (o' := 1) cn3 (opn_int Try.underlying3) (opn_one (opn_int Try.underlying3)) rfl (by decide))) (fun x : S139 => (x.f0, x.f1)) (fun a => ⟨a.1, a.2⟩) (fun _ => rfl)) (fun _ h => h)
theorem opnA0 : Opn Try.prog 55 (Kd.pair (Kd.int .i64) (Kd.pair (Kd.int .i64) (Kd.pair (Kd.int .i64) (Kd.pair (Kd.int .i64) (Kd.pair (Kd.slice 139 k139) Kd.bool))))) (fun x => ((Lit.int .i64 x.1).wf = true ∧ ((Lit.int .i64 x.2.1).wf = true ∧ ((Lit.int .i64 x.2.2.1).wf = true ∧ ((Lit.int .i64 x.2.2.2.1).wf = true ∧ ((x.2.2.2.2.1.length ≤ maxLen ∧ x.2.2.2.2.1.length * 16 ≤ 140737488351232 ∧ ∀ y ∈ x.2.2.2.2.1, ok139 y) ∧ True)))))) := (opn_struct (l := [(3, 0), (3, 1), (3, 2), (3, 3), (29, 4), (4, 5)]) Try.underlying55 rfl (by kernel_rfl) (opn_more (o' := 1) cn3 (opn_int Try.underlying3) (opn_more (o' := 2) cn3 (opn_int Try.underlying3) (opn_more (o' := 3) cn3 (opn_int Try.underlying3) (opn_more (o' := 4) cn3 (opn_int Try.underlying3) (opn_more (o' := 5) cn29 (opn_slice Try.underlying29 (by rw [cn139]; rfl) bn139 opn139) (opn_one (opn_bool Try.underlying4)) rfl (by decide)) rfl (by decide)) rfl (by decide)) rfl (by decide)) rfl (by decide)))
def laws_FnExactIngesterOK.Pure : Prop := ∀ (a0_0 : Int) (a0_1 : Int) (a0_2 : Int) (a0_3 : Int) (l0_4 : List S139) (a0_5 : Bool), (Lit.int .i64 a0_0).wf = true → (Lit.int .i64 a0_1).wf = true → (Lit.int .i64 a0_2).wf = true → (Lit.int .i64 a0_3).wf = true → (l0_4.length ≤ maxLen ∧ l0_4.length * 16 ≤ 140737488351232 ∧ ∀ y ∈ l0_4, ok139 y) → ∃ k, laws_FnExactIngesterOK.f k a0_0 a0_1 a0_2 a0_3 l0_4 a0_5 = some true
end Go.Proofs.Ytllpmcoknljhcaa.XFnExactIngesterOK
