/- The pure statement of FnExactGiveBatch, and what its arguments read as. -/
import Derived.Test.YteiolcfgaklafaaXFnExactGiveBatchx
import Derived.Test.YteiolcfgaklafaaOpn
namespace Go.Proofs.Yteiolcfgaklafaa.XFnExactGiveBatch
open Go.RowKit Go.Proofs.YteiolcfgaklafaaO Go.Proofs.YteiolcfgaklafaaW.PrintWords
set_option linter.unusedVariables false
theorem cn3 : Try.prog.cellsOf 3 = 1 := by kernel_rfl
theorem cn22 : Try.prog.cellsOf 22 = 1 := by kernel_rfl
theorem cn96 : Try.prog.cellsOf 96 = 2 := by kernel_rfl
theorem bn96 : Try.prog.bytesOf 96 = 16 := by kernel_rfl
def ok96 (x : S96) : Prop := (Lit.int .i64 x.f0).wf = true ∧ (Lit.int .i64 x.f1).wf = true
theorem opn96 : Opn Try.prog 96 k96 ok96 :=
  opn_mono (opn_iso (opn_struct (l := [(3, 0), (3, 1)]) Try.underlying96 rfl (by kernel_rfl) (opn_more (o' := 1) cn3 (opn_int Try.underlying3) (opn_one (opn_int Try.underlying3)) rfl (by decide))) (fun x : S96 => (x.f0, x.f1)) (fun a => ⟨a.1, a.2⟩) (fun _ => rfl)) (fun _ h => h)
theorem opnA0 : Opn Try.prog 24 (Kd.pair (Kd.int .i64) (Kd.pair (Kd.int .i64) (Kd.pair (Kd.int .i64) (Kd.pair (Kd.int .i64) (Kd.pair (Kd.slice 96 k96) Kd.bool))))) (fun x => ((Lit.int .i64 x.1).wf = true ∧ ((Lit.int .i64 x.2.1).wf = true ∧ ((Lit.int .i64 x.2.2.1).wf = true ∧ ((Lit.int .i64 x.2.2.2.1).wf = true ∧ ((x.2.2.2.2.1.length ≤ maxLen ∧ x.2.2.2.2.1.length * 16 ≤ 140737488351232 ∧ ∀ y ∈ x.2.2.2.2.1, ok96 y) ∧ True)))))) := (opn_struct (l := [(3, 0), (3, 1), (3, 2), (3, 3), (22, 4), (4, 5)]) Try.underlying24 rfl (by kernel_rfl) (opn_more (o' := 1) cn3 (opn_int Try.underlying3) (opn_more (o' := 2) cn3 (opn_int Try.underlying3) (opn_more (o' := 3) cn3 (opn_int Try.underlying3) (opn_more (o' := 4) cn3 (opn_int Try.underlying3) (opn_more (o' := 5) cn22 (opn_slice Try.underlying22 (by rw [cn96]; rfl) bn96 opn96) (opn_one (opn_bool Try.underlying4)) rfl (by decide)) rfl (by decide)) rfl (by decide)) rfl (by decide)) rfl (by decide)))
theorem opnA1 : Opn Try.prog 22 (Kd.slice 96 k96) (fun x => (x.length ≤ maxLen ∧ x.length * 16 ≤ 140737488351232 ∧ ∀ y ∈ x, ok96 y)) := (opn_slice Try.underlying22 (by rw [cn96]; rfl) bn96 opn96)
def laws_FnExactGiveBatch.Pure : Prop := ∀ (a0_0 : Int) (a0_1 : Int) (a0_2 : Int) (a0_3 : Int) (l0_4 : List S96) (a0_5 : Bool) (l1 : List S96), (Lit.int .i64 a0_0).wf = true → (Lit.int .i64 a0_1).wf = true → (Lit.int .i64 a0_2).wf = true → (Lit.int .i64 a0_3).wf = true → (l0_4.length ≤ maxLen ∧ l0_4.length * 16 ≤ 140737488351232 ∧ ∀ y ∈ l0_4, ok96 y) → (l1.length ≤ maxLen ∧ l1.length * 16 ≤ 140737488351232 ∧ ∀ y ∈ l1, ok96 y) → ∃ k, laws_FnExactGiveBatch.f k a0_0 a0_1 a0_2 a0_3 l0_4 a0_5 l1 = some true
end Go.Proofs.Yteiolcfgaklafaa.XFnExactGiveBatch
