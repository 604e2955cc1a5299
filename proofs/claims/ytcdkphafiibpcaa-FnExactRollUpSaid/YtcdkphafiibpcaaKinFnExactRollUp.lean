/- The pure statement of FnExactRollUp, and what its arguments read as. -/
import Derived.Test.YtcdkphafiibpcaaXFnExactRollUpx
import Derived.Test.YtcdkphafiibpcaaOpn
namespace Go.Proofs.Ytcdkphafiibpcaa.XFnExactRollUp
open Go.RowKit Go.Proofs.YtcdkphafiibpcaaO Go.Proofs.YtcdkphafiibpcaaW.PrintWords
set_option linter.unusedVariables false
theorem cn3 : Try.prog.cellsOf 3 = 1 := by kernel_rfl
theorem cn106 : Try.prog.cellsOf 106 = 7 := by kernel_rfl
theorem bn106 : Try.prog.bytesOf 106 = 56 := by kernel_rfl
def ok104 (x : S104) : Prop := (Lit.int .i64 x.f0).wf = true ∧ (Lit.int .i64 x.f1).wf = true ∧ (Lit.int .i64 x.f2).wf = true ∧ (Lit.int .i64 x.f3).wf = true ∧ (Lit.int .i64 x.f4).wf = true ∧ (Lit.int .i64 x.f5).wf = true
theorem opn104 : Opn Try.prog 104 k104 ok104 :=
  opn_mono (opn_iso (opn_struct (l := [(3, 0), (3, 1), (3, 2), (3, 3), (3, 4), (3, 5)]) Try.underlying104 rfl (by kernel_rfl) (opn_more (o' := 1) cn3 (opn_int Try.underlying3) (opn_more (o' := 2) cn3 (opn_int Try.underlying3) (opn_more (o' := 3) cn3 (opn_int Try.underlying3) (opn_more (o' := 4) cn3 (opn_int Try.underlying3) (opn_more (o' := 5) cn3 (opn_int Try.underlying3) (opn_one (opn_int Try.underlying3)) rfl (by decide)) rfl (by decide)) rfl (by decide)) rfl (by decide)) rfl (by decide))) (fun x : S104 => (x.f0, x.f1, x.f2, x.f3, x.f4, x.f5)) (fun a => ⟨a.1, a.2.1, a.2.2.1, a.2.2.2.1, a.2.2.2.2.1, a.2.2.2.2.2⟩) (fun _ => rfl)) (fun _ h => h)
def ok106 (x : S106) : Prop := (Lit.int .i64 x.f0).wf = true ∧ ok104 x.f1
theorem opn106 : Opn Try.prog 106 k106 ok106 :=
  opn_mono (opn_iso (opn_struct (l := [(3, 0), (104, 1)]) Try.underlying106 rfl (by kernel_rfl) (opn_more (o' := 1) cn3 (opn_int Try.underlying3) (opn_one opn104) rfl (by decide))) (fun x : S106 => (x.f0, x.f1)) (fun a => ⟨a.1, a.2⟩) (fun _ => rfl)) (fun _ h => h)
theorem opnA0 : Opn Try.prog 46 (Kd.slice 106 k106) (fun x => (x.length ≤ maxLen ∧ x.length * 56 ≤ 140737488351232 ∧ ∀ y ∈ x, ok106 y)) := (opn_slice Try.underlying46 (by rw [cn106]; rfl) bn106 opn106)
def laws_FnExactRollUp.Pure : Prop := ∀ (l0 : List S106) (a1 : Int) (a2 : Int), (l0.length ≤ maxLen ∧ l0.length * 56 ≤ 140737488351232 ∧ ∀ y ∈ l0, ok106 y) → (Lit.int .i64 a1).wf = true → (Lit.int .i64 a2).wf = true → ∃ k, laws_FnExactRollUp.f k l0 a1 a2 = some true
end Go.Proofs.Ytcdkphafiibpcaa.XFnExactRollUp
