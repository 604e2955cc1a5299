/- The pure law of FnExactKeyOK: what the printed functions compute answers true for every input of the kinds and sizes that the statement gives. -/
import Derived.Test.YtodmgklagfabaaaPFnExactKeyOKx1
namespace Go.Proofs.Ytodmgklagfabaaa.Pure
open Go.RowKit Go.Proofs.Ytodmgklagfabaaa.PFnExactKeyOK Go.Proofs.YtodmgklagfabaaaW.PrintWords Go.Proofs.YtodmgklagfabaaaW.PrintLast

-- BODY
/-- a byte that a key may hold -/
def kb (b : Int) : Bool := decide ((48 ≤ b ∧ b ≤ 57) ∨ (97 ≤ b ∧ b ≤ 122) ∨ b = 47 ∨ b = 45)
theorem spec_round (x : ByteArray) (k : Nat) (i : Int) (h0 : 0 ≤ i) (hl : i < (x.size : Int)) (hw : wrap64 (i + 1) = i + 1) :
    spec_KeyOK.l0 (k + 1) x i = if kb (bt x i) = true then spec_KeyOK.l0 k x (i + 1) else some false := by
  simp only [spec_KeyOK.l0, spec_l00Digit.f, hw]
  rw [if_pos hl, if_pos h0]
  unfold kb
  generalize bt x i = b
  by_cases a1 : b ≥ 48 <;> by_cases a2 : b ≤ 57 <;> by_cases a3 : b < 97 <;> by_cases a4 : b > 122 <;> by_cases a5 : b = 47 <;> by_cases a6 : b = 45 <;>
    first | omega | (simp [a1, a2, a3, a4, a5, a6] <;> omega)
theorem impl_round (x : ByteArray) (k : Nat) (i : Int) (h0 : 0 ≤ i) (hl : i < (x.size : Int)) (hw : wrap64 (i + 1) = i + 1) :
    impl_KeyOK.l0 (k + 1) x (x.size : Int) i = if kb (bt x i) = true then impl_KeyOK.l0 k x (x.size : Int) (i + 1) else some false := by
  simp only [impl_KeyOK.l0, hw]
  rw [if_pos hl, if_pos h0, if_pos hl]
  unfold kb
  generalize bt x i = b
  by_cases a1 : b < 48 <;> by_cases a2 : b > 57 <;> by_cases a3 : b < 97 <;> by_cases a4 : b > 122 <;> by_cases a5 : b = 47 <;> by_cases a6 : b = 45 <;>
    first | omega | (simp [a1, a2, a3, a4, a5, a6] <;> omega)
theorem both (x : ByteArray) (hn : x.size ≤ 140737488351232) (d : Nat) : ∀ (k : Nat) (i : Int), 0 ≤ i → i ≤ x.size → (x.size : Int) - i = d → d < k →
    ∃ r, spec_KeyOK.l0 k x i = some r ∧ impl_KeyOK.l0 k x (x.size : Int) i = some r ∧ (r = true → (x.size : Int) ≤ 30) := by
  induction d with
  | zero =>
    intro k i h0 h1 hd hk
    obtain ⟨k, rfl⟩ : ∃ m, k = m + 1 := ⟨k - 1, by omega⟩
    have hl : ¬ i < (x.size : Int) := by omega
    simp only [spec_KeyOK.l0, impl_KeyOK.l0, spec_l01In.f, impl_within.f]
    rw [if_neg hl, if_neg hl]
    by_cases a : 1 ≤ (x.size : Int)
    · rw [if_pos a]; exact ⟨_, rfl, rfl, fun h => of_decide_eq_true h⟩
    · rw [if_neg a]; exact ⟨_, rfl, rfl, fun h => by cases h⟩
  | succ d ih =>
    intro k i h0 h1 hd hk
    obtain ⟨k, rfl⟩ : ∃ m, k = m + 1 := ⟨k - 1, by omega⟩
    have hl : i < (x.size : Int) := by omega
    have hw : wrap64 (i + 1) = i + 1 := by unfold wrap64; omega
    rw [spec_round x k i h0 hl hw, impl_round x k i h0 hl hw]
    by_cases hb : kb (bt x i) = true
    · rw [if_pos hb, if_pos hb]; exact ih k (i + 1) (by omega) (by omega) (by omega) (by omega)
    · rw [if_neg hb, if_neg hb]; exact ⟨false, rfl, rfl, fun h => by cases h⟩
theorem FnExactKeyOK : laws_FnExactKeyOK.Pure := by
  intro x hn
  refine ⟨x.size + 1, ?_⟩
  unfold laws_FnExactKeyOK.f
  by_cases hs : (x.size : Int) > 1048576
  · rw [if_pos hs]
  · rw [if_neg hs]
    obtain ⟨r, ha, hb, hr⟩ := both x hn x.size (x.size + 1) 0 (by omega) (by omega) (by omega) (by omega)
    unfold spec_KeyOK.f impl_KeyOK.f
    rw [ha, hb]
    by_cases h6 : (x.size : Int) > 65536
    · rw [if_pos h6]
      have : r = false := by
        cases r with
        | false => rfl
        | true => have := hr rfl; omega
      subst this
      simp
    · rw [if_neg h6]
      simp

end Go.Proofs.Ytodmgklagfabaaa.Pure
