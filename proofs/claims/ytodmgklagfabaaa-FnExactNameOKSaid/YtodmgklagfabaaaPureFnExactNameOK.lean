/- The pure law of FnExactNameOK: what the printed functions compute answers true for every input of the kinds and sizes that the statement gives. -/
import Derived.Test.YtodmgklagfabaaaPFnExactNameOKx2
namespace Go.Proofs.Ytodmgklagfabaaa.Pure
open Go.RowKit Go.Proofs.Ytodmgklagfabaaa.PFnExactNameOK Go.Proofs.YtodmgklagfabaaaW.PrintWords Go.Proofs.YtodmgklagfabaaaW.PrintLast

-- BODY
/-- a letter -/
def lt_ (b : Int) : Bool := decide ((97 ≤ b ∧ b ≤ 122) ∨ (65 ≤ b ∧ b ≤ 90) ∨ b = 95)
/-- a digit -/
def dg_ (b : Int) : Bool := decide (48 ≤ b ∧ b ≤ 57)
theorem letter (b : Int) : spec_l00Letter.f b = some (lt_ b) := by
  unfold spec_l00Letter.f lt_
  by_cases a1 : b ≥ 97 <;> by_cases a2 : b ≤ 122 <;> by_cases a3 : b ≥ 65 <;> by_cases a4 : b ≤ 90 <;> by_cases a5 : b = 95 <;>
    first | omega | (simp [a1, a2, a3, a4, a5] <;> omega)
theorem digit (b : Int) : spec_l00Digit.f b = some (dg_ b) := by
  unfold spec_l00Digit.f dg_
  by_cases a1 : b ≥ 48 <;> by_cases a2 : b ≤ 57 <;> first | omega | (simp [a1, a2] <;> omega)
theorem spec_round (x : ByteArray) (k : Nat) (i : Int) (h0 : 0 ≤ i) (hl : i < (x.size : Int)) (hw : wrap64 (i + 1) = i + 1) :
    spec_l00Word.l0 (k + 1) x i = if (lt_ (bt x i) || dg_ (bt x i)) = true then spec_l00Word.l0 k x (i + 1) else some false := by
  simp only [spec_l00Word.l0, hw, letter, digit, Option.bind_some]
  rw [if_pos hl, if_pos h0]
  cases lt_ (bt x i) <;> cases dg_ (bt x i) <;> simp
theorem impl_round (x : ByteArray) (k : Nat) (i : Int) (h0 : 0 ≤ i) (hl : i < (x.size : Int)) (hw : wrap64 (i + 1) = i + 1) :
    impl_NameOK.l0 (k + 1) x (x.size : Int) i = if (lt_ (bt x i) || (decide (i ≠ 0) && dg_ (bt x i))) = true then impl_NameOK.l0 k x (x.size : Int) (i + 1) else some false := by
  simp only [impl_NameOK.l0, hw]
  rw [if_pos hl, if_pos h0, if_pos hl]
  unfold lt_ dg_
  generalize bt x i = b
  by_cases a1 : b ≥ 97 <;> by_cases a2 : b ≤ 122 <;> by_cases a3 : b ≥ 65 <;> by_cases a4 : b ≤ 90 <;> by_cases a5 : b = 95 <;> by_cases a6 : i = 0 <;> by_cases a7 : b < 48 <;> by_cases a8 : b > 57 <;>
    first | omega | (simp [a1, a2, a3, a4, a5, a6, a7, a8] <;> omega)
theorem both (x : ByteArray) (hn : x.size ≤ 140737488351232) (d : Nat) : ∀ (k : Nat) (i : Int), 1 ≤ i → i ≤ x.size → (x.size : Int) - i = d → d < k →
    ∃ r, spec_l00Word.l0 k x i = some r ∧ impl_NameOK.l0 k x (x.size : Int) i = some (r && decide ((x.size : Int) ≤ 40)) := by
  induction d with
  | zero =>
    intro k i h0 h1 hd hk
    obtain ⟨k, rfl⟩ : ∃ m, k = m + 1 := ⟨k - 1, by omega⟩
    have hl : ¬ i < (x.size : Int) := by omega
    simp only [spec_l00Word.l0, impl_NameOK.l0, impl_within.f]
    rw [if_neg hl, if_neg hl, if_pos (by omega)]
    exact ⟨true, rfl, by simp⟩
  | succ d ih =>
    intro k i h0 h1 hd hk
    obtain ⟨k, rfl⟩ : ∃ m, k = m + 1 := ⟨k - 1, by omega⟩
    have hl : i < (x.size : Int) := by omega
    have hw : wrap64 (i + 1) = i + 1 := by unfold wrap64; omega
    rw [spec_round x k i (by omega) hl hw, impl_round x k i (by omega) hl hw]
    have hi : decide (i ≠ 0) = true := decide_eq_true (by omega)
    rw [hi, Bool.true_and]
    by_cases hb : (lt_ (bt x i) || dg_ (bt x i)) = true
    · rw [if_pos hb, if_pos hb]; exact ih k (i + 1) (by omega) (by omega) (by omega) (by omega)
    · rw [if_neg hb, if_neg hb]; exact ⟨false, rfl, rfl⟩
/-- more rounds tell the same -/
theorem up {x : ByteArray} {k : Nat} {r : Bool} {i : Int} (h : spec_l00Word.l0 k x i = some r) : spec_l00Word.l0 (k + 1) x i = some r := (spec_l00Word.mono_l k).2 x i r h
theorem FnExactNameOK : laws_FnExactNameOK.Pure := by
  intro x hn
  refine ⟨x.size + 2, ?_⟩
  unfold laws_FnExactNameOK.f
  by_cases hs : (x.size : Int) > 1048576
  · rw [if_pos hs]
  · rw [if_neg hs]
    have key : ∃ r, spec_NameOK.f (x.size + 2) x = some r ∧ impl_NameOK.f (x.size + 2) x = some r := by
      unfold spec_NameOK.f impl_NameOK.f spec_l00Word.f
      by_cases h1 : (x.size : Int) < 1
      · refine ⟨false, ?_, ?_⟩
        · rw [if_pos h1]; simp [spec_l00Word.j0]
        · simp only [impl_NameOK.l0, impl_within.f]; rw [if_neg (by omega), if_neg (by omega)]; rfl
      · have hl : (0 : Int) < (x.size : Int) := by omega
        obtain ⟨r, ha, hb⟩ := both x hn (x.size - 1) (x.size + 1) 1 (by omega) (by omega) (by omega) (by omega)
        have hi : impl_NameOK.l0 (x.size + 2) x (x.size : Int) 0 = if lt_ (bt x 0) = true then some (r && decide ((x.size : Int) ≤ 40)) else some false := by
          rw [impl_round x (x.size + 1) 0 (by omega) hl (by unfold wrap64; omega)]
          have : decide ((0 : Int) ≠ 0) = false := by decide
          rw [this, Bool.false_and, Bool.or_false, show (0 : Int) + 1 = 1 from rfl, hb]
        rw [hi, if_neg h1, if_pos hl]
        by_cases h4 : (x.size : Int) > 40
        · rw [if_pos h4]
          have : decide ((x.size : Int) ≤ 40) = false := decide_eq_false (by omega)
          refine ⟨false, by simp [spec_l00Word.j0], ?_⟩
          rw [this]; simp
        · rw [if_neg h4]
          have : decide ((x.size : Int) ≤ 40) = true := decide_eq_true (by omega)
          rw [this, Bool.and_true]
          simp only [letter, Option.bind_some, spec_l00Word.j0, ha]
          cases lt_ (bt x 0) <;> simp
    obtain ⟨r, ha, hb⟩ := key
    rw [ha, hb]
    simp

end Go.Proofs.Ytodmgklagfabaaa.Pure
