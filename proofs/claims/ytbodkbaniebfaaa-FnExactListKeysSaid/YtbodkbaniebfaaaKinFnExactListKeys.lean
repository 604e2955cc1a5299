/- The pure statement of FnExactListKeys, and what its arguments read as. -/
import Derived.Test.YtbodkbaniebfaaaXFnExactListKeysx
import Derived.Test.YtbodkbaniebfaaaOpn
namespace Go.Proofs.Ytbodkbaniebfaaa.XFnExactListKeys
open Go.RowKit Go.Proofs.YtbodkbaniebfaaaO Go.Proofs.YtbodkbaniebfaaaW.PrintWords
set_option linter.unusedVariables false
theorem cn3 : Try.prog.cellsOf 3 = 1 := by kernel_rfl
theorem cn9 : Try.prog.cellsOf 9 = 1 := by kernel_rfl
theorem cn22 : Try.prog.cellsOf 22 = 1 := by kernel_rfl
theorem cn70 : Try.prog.cellsOf 70 = 3 := by kernel_rfl
theorem bn70 : Try.prog.bytesOf 70 = 40 := by kernel_rfl
def ok70 (x : S70) : Prop := x.f0.size ≤ 140737488351232 ∧ (Lit.int .i64 x.f1).wf = true ∧ x.f2.size ≤ 140737488351232
theorem opn70 : Opn Try.prog 70 k70 ok70 :=
  opn_mono (opn_iso (opn_struct (l := [(9, 0), (3, 1), (9, 2)]) Try.underlying70 rfl (by kernel_rfl) (opn_more (o' := 1) cn9 (opn_string Try.underlying9) (opn_more (o' := 2) cn3 (opn_int Try.underlying3) (opn_one (opn_string Try.underlying9)) rfl (by decide)) rfl (by decide))) (fun x : S70 => (x.f0, x.f1, x.f2)) (fun a => ⟨a.1, a.2.1, a.2.2⟩) (fun _ => rfl)) (fun _ h => h)
theorem opnA0 : Opn Try.prog 24 (Kd.pair (Kd.slice 70 k70) (Kd.int .i64)) (fun x => ((x.1.length ≤ maxLen ∧ x.1.length * 40 ≤ 140737488351232 ∧ ∀ y ∈ x.1, ok70 y) ∧ (Lit.int .i64 x.2).wf = true)) := (opn_struct (l := [(22, 0), (3, 1)]) Try.underlying24 rfl (by kernel_rfl) (opn_more (o' := 1) cn22 (opn_slice Try.underlying22 (by rw [cn70]; rfl) bn70 opn70) (opn_one (opn_int Try.underlying3)) rfl (by decide)))
def laws_FnExactListKeys.Pure : Prop := ∀ (l0_0 : List S70) (a0_1 : Int) (a1 : ByteArray) (a2 : ByteArray) (a3 : Int), (l0_0.length ≤ maxLen ∧ l0_0.length * 40 ≤ 140737488351232 ∧ ∀ y ∈ l0_0, ok70 y) → (Lit.int .i64 a0_1).wf = true → a1.size ≤ 140737488351232 → a2.size ≤ 140737488351232 → (Lit.int .i64 a3).wf = true → ∃ k, laws_FnExactListKeys.f k l0_0 a0_1 a1 a2 a3 = some true
end Go.Proofs.Ytbodkbaniebfaaa.XFnExactListKeys
