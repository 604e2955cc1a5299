/- The pure statement of FnExactFoldRange, and what its arguments read as. -/
import Derived.Test.YtllpmcoknljhcaaXFnExactFoldRangex
import Derived.Test.YtllpmcoknljhcaaOpn
namespace Go.Proofs.Ytllpmcoknljhcaa.XFnExactFoldRange
open Go.RowKit Go.Proofs.YtllpmcoknljhcaaO Go.Proofs.YtllpmcoknljhcaaW.PrintWords
set_option linter.unusedVariables false
theorem cn3 : Try.prog.cellsOf 3 = 1 := by kernel_rfl
theorem cn154 : Try.prog.cellsOf 154 = 7 := by kernel_rfl
theorem bn154 : Try.prog.bytesOf 154 = 56 := by kernel_rfl
def ok23 (x : S23) : Prop := (Lit.int .i64 x.f0).wf = true ∧ (Lit.int .i64 x.f1).wf = true ∧ (Lit.int .i64 x.f2).wf = true ∧ (Lit.int .i64 x.f3).wf = true ∧ (Lit.int .i64 x.f4).wf = true ∧ (Lit.int .i64 x.f5).wf = true
theorem opn23 : Opn Try.prog 23 k23 ok23 :=
  opn_mono (opn_iso (opn_struct (l := [(3, 0), (3, 1), (3, 2), (3, 3), (3, 4), (3, 5)]) Try.underlying23 rfl (by kernel_rfl) (opn_more (o' := 1) cn3 (opn_int Try.underlying3) (opn_more (o' := 2) cn3 (opn_int Try.underlying3) (opn_more (o' := 3) cn3 (opn_int Try.underlying3) (opn_more (o' := 4) cn3 (opn_int Try.underlying3) (opn_more (o' := 5) cn3 (opn_int Try.underlying3) (opn_one (opn_int Try.underlying3)) rfl (by decide)) rfl (by decide)) rfl (by decide)) rfl (by decide)) rfl (by decide))) (fun x : S23 => (x.f0, x.f1, x.f2, x.f3, x.f4, x.f5)) (fun a => ⟨a.1, a.2.1, a.2.2.1, a.2.2.2.1, a.2.2.2.2.1, a.2.2.2.2.2⟩) (fun _ => rfl)) (fun _ h => h)
def ok154 (x : S154) : Prop := (Lit.int .i64 x.f0).wf = true ∧ ok23 x.f1
theorem opn154 : Opn Try.prog 154 k154 ok154 :=
  opn_mono (opn_iso (opn_struct (l := [(3, 0), (23, 1)]) Try.underlying154 rfl (by kernel_rfl) (opn_more (o' := 1) cn3 (opn_int Try.underlying3) (opn_one opn23) rfl (by decide))) (fun x : S154 => (x.f0, x.f1)) (fun a => ⟨a.1, a.2⟩) (fun _ => rfl)) (fun _ h => h)
theorem opnA0 : Opn Try.prog 65 (Kd.slice 154 k154) (fun x => (x.length ≤ maxLen ∧ x.length * 56 ≤ 140737488351232 ∧ ∀ y ∈ x, ok154 y)) := (opn_slice Try.underlying65 (by rw [cn154]; rfl) bn154 opn154)
def laws_FnExactFoldRange.Pure : Prop := ∀ (l0 : List S154) (a1 : Int) (a2 : Int), (l0.length ≤ maxLen ∧ l0.length * 56 ≤ 140737488351232 ∧ ∀ y ∈ l0, ok154 y) → (Lit.int .i64 a1).wf = true → (Lit.int .i64 a2).wf = true → ∃ k, laws_FnExactFoldRange.f k l0 a1 a2 = some true
end Go.Proofs.Ytllpmcoknljhcaa.XFnExactFoldRange
