/- The pure law of FnExactMergeAgg: what the printed functions compute answers true for every input of the kinds and sizes that the statement gives. -/
import Derived.Test.YtllpmcoknljhcaaKinFnExactMergeAgg
namespace Go.Proofs.Ytllpmcoknljhcaa.Pure
open Go.RowKit Go.Proofs.YtllpmcoknljhcaaW.PrintWords Go.Proofs.YtllpmcoknljhcaaW.PrintLast Go.Proofs.Ytllpmcoknljhcaa.XFnExactMergeAgg

-- BODY
theorem first2 (k : Nat) (b1 b2 : Bool) (c1 c2 : Int) : impl_first.f (k + 3) [anyB b1, anyI c1, anyB b2, anyI c2] = some (if b1 = true then c1 else if b2 = true then c2 else 0) := by
  have w1 : wrap64 1 = 1 := by unfold wrap64; omega
  have w2 : wrap64 2 = 2 := by unfold wrap64; omega
  have w3 : wrap64 3 = 3 := by unfold wrap64; omega
  have w4 : wrap64 4 = 4 := by unfold wrap64; omega
  have w5 : wrap64 5 = 5 := by unfold wrap64; omega
  cases b1 <;> cases b2 <;> simp [impl_first.f, impl_first.l0, w1, w2, w3, w4, w5, rdOf, anyAsB, anyAsI]
theorem first3 (k : Nat) (b1 b2 b3 : Bool) (c1 c2 c3 : Int) : impl_first.f (k + 4) [anyB b1, anyI c1, anyB b2, anyI c2, anyB b3, anyI c3] = some (if b1 = true then c1 else if b2 = true then c2 else if b3 = true then c3 else 0) := by
  have w1 : wrap64 1 = 1 := by unfold wrap64; omega
  have w2 : wrap64 2 = 2 := by unfold wrap64; omega
  have w3 : wrap64 3 = 3 := by unfold wrap64; omega
  have w4 : wrap64 4 = 4 := by unfold wrap64; omega
  have w5 : wrap64 5 = 5 := by unfold wrap64; omega
  have w6 : wrap64 6 = 6 := by unfold wrap64; omega
  have w7 : wrap64 7 = 7 := by unfold wrap64; omega
  cases b1 <;> cases b2 <;> cases b3 <;> simp [impl_first.f, impl_first.l0, w1, w2, w3, w4, w5, w6, w7, rdOf, anyAsB, anyAsI]
/-- a right aggregate, in plain words -/
def aggB (c s mn mx f l : Int) : Bool := (c == 0 && s == 0 && mn == 0 && mx == 0 && f == 0 && l == 0) ||
  (decide (1 ≤ c) && decide (c ≤ 100000) && decide (-1000000 ≤ mn) && decide (mn ≤ 1000000) && decide (-1000000 ≤ mx) && decide (mx ≤ 1000000) && decide (mn ≤ f) && decide (f ≤ mx) && decide (mn ≤ l) && decide (l ≤ mx) && decide (c * mn ≤ s) && decide (s ≤ c * mx))
theorem within_eq (a b c : Int) : impl_within.f a b c = some (decide (b ≤ a) && decide (a ≤ c)) := by
  unfold impl_within.f; by_cases h : b ≤ a <;> simp [h]
theorem in_eq (a b c : Int) : spec_l01In.f a b c = some (decide (b ≤ a) && decide (a ≤ c)) := by
  unfold spec_l01In.f; by_cases h : b ≤ a <;> simp [h]
theorem mul_small {c m : Int} (h1 : 1 ≤ c) (h2 : c ≤ 100000) (h3 : -1000000 ≤ m) (h4 : m ≤ 1000000) : wrap64 (c * m) = c * m := by
  have a : c * m ≤ 100000 * 1000000 := by
    rcases Int.lt_or_le m 0 with h | h
    · have : c * m ≤ 0 := Int.mul_nonpos_of_nonneg_of_nonpos (by omega) (by omega)
      omega
    · exact Int.mul_le_mul h2 h4 h (by omega)
  have b : -(100000 * 1000000) ≤ c * m := by
    have h5 : c * (-m) ≤ 100000 * 1000000 := by
      rcases Int.lt_or_le (-m) 0 with h | h
      · have : c * (-m) ≤ 0 := Int.mul_nonpos_of_nonneg_of_nonpos (by omega) (by omega)
        omega
      · exact Int.mul_le_mul h2 (by omega) h (by omega)
    rw [Int.mul_neg] at h5
    omega
  unfold wrap64; omega
theorem spec_agg (c s mn mx f l : Int) : spec_AggOK.f c s mn mx f l = some (aggB c s mn mx f l) := by
  unfold spec_AggOK.f aggB spec_l02Value.f
  simp only [in_eq, Option.bind_some]
  by_cases hc : c = 0
  · subst hc; simp [Bool.and_assoc]
  · have hc' : (c == 0) = false := by simp [hc]
    rw [if_neg hc, hc']
    by_cases h1 : 1 ≤ c <;> by_cases h2 : c ≤ 100000 <;> simp only [h1, h2, decide_true, decide_false, Bool.and_true, Bool.true_and, Bool.and_false, Bool.false_and, Bool.false_or, if_true, if_false, Bool.false_eq_true]
    by_cases h3 : -1000000 ≤ mn <;> by_cases h4 : mn ≤ 1000000 <;> simp only [h3, h4, decide_true, decide_false, Bool.and_true, Bool.true_and, Bool.and_false, Bool.false_and, if_true, if_false, Bool.false_eq_true]
    by_cases h5 : -1000000 ≤ mx <;> by_cases h6 : mx ≤ 1000000 <;> simp only [h5, h6, decide_true, decide_false, Bool.and_true, Bool.true_and, Bool.and_false, Bool.false_and, if_true, if_false, Bool.false_eq_true]
    rw [mul_small h1 h2 h3 h4, mul_small h1 h2 h5 h6]
    by_cases h7 : mn ≤ f <;> by_cases h8 : f ≤ mx <;> by_cases h9 : mn ≤ l <;> by_cases h10 : l ≤ mx <;> simp [h7, h8, h9, h10]
theorem impl_agg (c s mn mx f l : Int) : impl_AggOK.f c s mn mx f l = some (aggB c s mn mx f l) := by
  rw [← spec_agg]
  unfold impl_AggOK.f spec_AggOK.f impl_isValue.f spec_l02Value.f
  simp only [in_eq, within_eq, Option.bind_some]
  by_cases hc : c = 0
  · subst hc
    by_cases h : s = 0 ∧ mn = 0 ∧ mx = 0 ∧ f = 0 ∧ l = 0
    · obtain ⟨rfl, rfl, rfl, rfl, rfl⟩ := h; simp
    · have e : ((0 : Int) == 0 && (s == 0 && (mn == 0 && (mx == 0 && (f == 0 && (l == 0)))))) = false := by
        rw [Bool.eq_false_iff]; intro h'; apply h; simpa using h'
      rw [e]; simp
  · have hc' : (c == 0) = false := by simp [hc]
    rw [if_neg hc, hc']
    simp
theorem agg_bounds {c s mn mx f l : Int} (h : aggB c s mn mx f l = true) : 0 ≤ c ∧ c ≤ 100000 ∧ -100000000000 ≤ s ∧ s ≤ 100000000000 ∧ -1000000 ≤ mn ∧ mn ≤ 1000000 ∧ -1000000 ≤ mx ∧ mx ≤ 1000000 ∧ -1000000 ≤ f ∧ f ≤ 1000000 ∧ -1000000 ≤ l ∧ l ≤ 1000000 := by
  unfold aggB at h
  simp only [Bool.or_eq_true, Bool.and_eq_true, beq_iff_eq, decide_eq_true_eq] at h
  rcases h with ⟨⟨⟨⟨⟨rfl, rfl⟩, rfl⟩, rfl⟩, rfl⟩, rfl⟩ | ⟨⟨⟨⟨⟨⟨⟨⟨⟨⟨⟨h1, h2⟩, h3⟩, h4⟩, h5⟩, h6⟩, h7⟩, h8⟩, h9⟩, h10⟩, h11⟩, h12⟩
  · decide
  · have a1 := mul_small h1 h2 h3 h4
    have a2 := mul_small h1 h2 h5 h6
    have b1 : -(100000 * 1000000) ≤ c * mn := by
      have h5' : c * (-mn) ≤ 100000 * 1000000 := by
        rcases Int.lt_or_le (-mn) 0 with h | h
        · have : c * (-mn) ≤ 0 := Int.mul_nonpos_of_nonneg_of_nonpos (by omega) (by omega)
          omega
        · exact Int.mul_le_mul h2 (by omega) h (by omega)
      rw [Int.mul_neg] at h5'
      omega
    have b2 : c * mx ≤ 100000 * 1000000 := by
      rcases Int.lt_or_le mx 0 with h | h
      · have : c * mx ≤ 0 := Int.mul_nonpos_of_nonneg_of_nonpos (by omega) (by omega)
        omega
      · exact Int.mul_le_mul h2 h6 h (by omega)
    omega
theorem eqAgg_same (a b c d e f : Int) : laws_eqAgg.f a b c d e f a b c d e f = some true := by simp [laws_eqAgg.f]
theorem merged_total (c s mn mx f l c' s' mn' mx' f' l' : Int) : ∃ r, spec_l02Merge.f c s mn mx f l c' s' mn' mx' f' l' = some r := by
  unfold spec_l02Merge.f
  by_cases h : c = 0
  · rw [if_pos h]; exact ⟨_, rfl⟩
  · rw [if_neg h]
    by_cases h' : c' = 0
    · rw [if_pos h']; exact ⟨_, rfl⟩
    · rw [if_neg h']; exact ⟨_, rfl⟩
theorem both (c s mn mx f l c' s' mn' mx' f' l' : Int) : ∃ r, spec_MergeAgg.f 3 c s mn mx f l c' s' mn' mx' f' l' = some r ∧ impl_MergeAgg.f 3 c s mn mx f l c' s' mn' mx' f' l' = some r := by
  unfold spec_MergeAgg.f impl_MergeAgg.f
  simp only [spec_agg, impl_agg, Option.bind_some]
  rw [first2 0, first2 0]
  cases hA : aggB c s mn mx f l with
  | false => exact ⟨(0, 0, 0, 0, 0, 0, 1), by simp [spec_MergeAgg.j0], by simp⟩
  | true =>
    cases hB : aggB c' s' mn' mx' f' l' with
    | false => exact ⟨(0, 0, 0, 0, 0, 0, 1), by simp [spec_MergeAgg.j0], by simp⟩
    | true =>
      obtain ⟨h0, h1, _⟩ := agg_bounds hA
      obtain ⟨h2, h3, _⟩ := agg_bounds hB
      have w : wrap64 (c + c') = c + c' := by unfold wrap64; omega
      by_cases hm : c + c' > 100000
      · exact ⟨(0, 0, 0, 0, 0, 0, 6), by simp [spec_MergeAgg.j0, w, hm], by simp [w, hm]⟩
      · obtain ⟨r, hr⟩ := merged_total c s mn mx f l c' s' mn' mx' f' l'
        have hr' : impl_Agg_merged.f c s mn mx f l c' s' mn' mx' f' l' = some r := hr
        exact ⟨(r.1, r.2.1, r.2.2.1, r.2.2.2.1, r.2.2.2.2.1, r.2.2.2.2.2, 0), by simp [spec_MergeAgg.j0, w, hm, hr], by simp [w, hm, hr']⟩
theorem FnExactMergeAgg : laws_FnExactMergeAgg.Pure := by
  intro c s mn mx f l c' s' mn' mx' f' l' _ _ _ _ _ _ _ _ _ _ _ _
  refine ⟨3, ?_⟩
  obtain ⟨r, h1, h2⟩ := both c s mn mx f l c' s' mn' mx' f' l'
  unfold laws_FnExactMergeAgg.f laws_toAgg.f
  simp only [Option.bind_some, h1, h2, eqAgg_same]
  simp

end Go.Proofs.Ytllpmcoknljhcaa.Pure
