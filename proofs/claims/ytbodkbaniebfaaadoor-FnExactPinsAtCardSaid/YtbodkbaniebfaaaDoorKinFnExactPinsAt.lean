/- The pure statement of FnExactPinsAt, and what its arguments read as. -/
import Derived.Test.YtbodkbaniebfaaaDoorXFnExactPinsAtx
import Derived.Test.YtbodkbaniebfaaaDoorOpn
namespace Go.Proofs.YtbodkbaniebfaaaDoor.XFnExactPinsAt
open Go.RowKit Go.Proofs.YtbodkbaniebfaaaDoorO Go.Proofs.YtbodkbaniebfaaaDoorW.PrintWords
set_option linter.unusedVariables false
theorem cn3 : Tryd.prog.cellsOf 3 = 1 := by kernel_rfl
theorem cn9 : Tryd.prog.cellsOf 9 = 1 := by kernel_rfl
theorem cn22 : Tryd.prog.cellsOf 22 = 1 := by kernel_rfl
theorem cn50 : Tryd.prog.cellsOf 50 = 3 := by kernel_rfl
theorem bn50 : Tryd.prog.bytesOf 50 = 40 := by kernel_rfl
def ok50 (x : S50) : Prop := x.f0.size ≤ 140737488351232 ∧ (Lit.int .i64 x.f1).wf = true ∧ x.f2.size ≤ 140737488351232
theorem opn50 : Opn Tryd.prog 50 k50 ok50 :=
  opn_mono (opn_iso (opn_struct (l := [(9, 0), (3, 1), (9, 2)]) Tryd.underlying50 rfl (by kernel_rfl) (opn_more (o' := 1) cn9 (opn_string Tryd.underlying9) (opn_more (o' := 2) cn3 (opn_int Tryd.underlying3) (opn_one (opn_string Tryd.underlying9)) rfl (by decide)) rfl (by decide))) (fun x : S50 => (x.f0, x.f1, x.f2)) (fun a => ⟨a.1, a.2.1, a.2.2⟩) (fun _ => rfl)) (fun _ h => h)
theorem opnA0 : Opn Tryd.prog 24 (Kd.pair (Kd.slice 50 k50) (Kd.int .i64)) (fun x => ((x.1.length ≤ maxLen ∧ x.1.length * 40 ≤ 140737488351232 ∧ ∀ y ∈ x.1, ok50 y) ∧ (Lit.int .i64 x.2).wf = true)) := (opn_struct (l := [(22, 0), (3, 1)]) Tryd.underlying24 rfl (by kernel_rfl) (opn_more (o' := 1) cn22 (opn_slice Tryd.underlying22 (by rw [cn50]; rfl) bn50 opn50) (opn_one (opn_int Tryd.underlying3)) rfl (by decide)))
def laws_FnExactPinsAt.Pure : Prop := ∀ (l0_0 : List S50) (a0_1 : Int) (a1 : Int), (l0_0.length ≤ maxLen ∧ l0_0.length * 40 ≤ 140737488351232 ∧ ∀ y ∈ l0_0, ok50 y) → (Lit.int .i64 a0_1).wf = true → (Lit.int .i64 a1).wf = true → ∃ k, laws_FnExactPinsAt.f k l0_0 a0_1 a1 = some true
end Go.Proofs.YtbodkbaniebfaaaDoor.XFnExactPinsAt
