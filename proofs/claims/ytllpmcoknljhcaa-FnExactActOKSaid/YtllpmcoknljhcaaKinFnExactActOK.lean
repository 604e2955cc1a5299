/- The pure statement of FnExactActOK, and what its arguments read as. -/
import Derived.Test.YtllpmcoknljhcaaXFnExactActOKx
import Derived.Test.YtllpmcoknljhcaaOpn
namespace Go.Proofs.Ytllpmcoknljhcaa.XFnExactActOK
open Go.RowKit Go.Proofs.YtllpmcoknljhcaaO Go.Proofs.YtllpmcoknljhcaaW.PrintWords
set_option linter.unusedVariables false
theorem cn3 : Try.prog.cellsOf 3 = 1 := by kernel_rfl
theorem cn139 : Try.prog.cellsOf 139 = 2 := by kernel_rfl
theorem bn139 : Try.prog.bytesOf 139 = 16 := by kernel_rfl
def ok139 (x : S139) : Prop := (Lit.int .i64 x.f0).wf = true ∧ (Lit.int .i64 x.f1).wf = true
theorem opn139 : Opn Try.prog 139 k139 ok139 :=
  opn_mono (opn_iso (opn_struct (l := [(3, 0), (3, 1)]) Try.underlying139 rfl (by kernel_rfl) (opn_more (o' := 1) cn3 (opn_int Try.underlying3) (opn_one (opn_int Try.underlying3)) rfl (by decide))) (fun x : S139 => (x.f0, x.f1)) (fun a => ⟨a.1, a.2⟩) (fun _ => rfl)) (fun _ h => h)
theorem opnA0 : Opn Try.prog 90 (Kd.pair (Kd.int .i64) (Kd.pair (Kd.int .i64) (Kd.pair (Kd.int .i64) (Kd.pair (Kd.int .i64) (Kd.pair (Kd.int .i64) (Kd.pair (Kd.int .i64) (Kd.slice 139 k139))))))) (fun x => ((Lit.int .i64 x.1).wf = true ∧ ((Lit.int .i64 x.2.1).wf = true ∧ ((Lit.int .i64 x.2.2.1).wf = true ∧ ((Lit.int .i64 x.2.2.2.1).wf = true ∧ ((Lit.int .i64 x.2.2.2.2.1).wf = true ∧ ((Lit.int .i64 x.2.2.2.2.2.1).wf = true ∧ (x.2.2.2.2.2.2.length ≤ maxLen ∧ x.2.2.2.2.2.2.length * 16 ≤ 140737488351232 ∧ ∀ y ∈ x.2.2.2.2.2.2, ok139 y)))))))) := (opn_struct (l := [(3, 0), (3, 1), (3, 2), (3, 3), (3, 4), (3, 5), (29, 6)]) Try.underlying90 rfl (by kernel_rfl) (opn_more (o' := 1) cn3 (opn_int Try.underlying3) (opn_more (o' := 2) cn3 (opn_int Try.underlying3) (opn_more (o' := 3) cn3 (opn_int Try.underlying3) (opn_more (o' := 4) cn3 (opn_int Try.underlying3) (opn_more (o' := 5) cn3 (opn_int Try.underlying3) (opn_more (o' := 6) cn3 (opn_int Try.underlying3) (opn_one (opn_slice Try.underlying29 (by rw [cn139]; rfl) bn139 opn139)) rfl (by decide)) rfl (by decide)) rfl (by decide)) rfl (by decide)) rfl (by decide)) rfl (by decide)))
def laws_FnExactActOK.Pure : Prop := ∀ (a0_0 : Int) (a0_1 : Int) (a0_2 : Int) (a0_3 : Int) (a0_4 : Int) (a0_5 : Int) (l0_6 : List S139), (Lit.int .i64 a0_0).wf = true → (Lit.int .i64 a0_1).wf = true → (Lit.int .i64 a0_2).wf = true → (Lit.int .i64 a0_3).wf = true → (Lit.int .i64 a0_4).wf = true → (Lit.int .i64 a0_5).wf = true → (l0_6.length ≤ maxLen ∧ l0_6.length * 16 ≤ 140737488351232 ∧ ∀ y ∈ l0_6, ok139 y) → ∃ k, laws_FnExactActOK.f k a0_0 a0_1 a0_2 a0_3 a0_4 a0_5 l0_6 = some true
end Go.Proofs.Ytllpmcoknljhcaa.XFnExactActOK
