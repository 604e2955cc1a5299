/- The pure law of FnExactWindowOf: what the printed functions compute answers true for every input of the kinds and sizes that the statement gives. -/
import Derived.Test.YtleifhnoaaphmaaGreatDoorKinFnExactWindowOf
import Derived.Lib.AtoiAllCases
import Derived.Lib.ItoaLen
import Derived.Lib.SplitLaws
import Derived.Lib.AtoiAllCases
import Derived.Lib.ItoaLen
import Derived.Lib.SplitLaws
import Derived.Lib.AtoiAllCases
import Derived.Lib.ItoaLen
import Derived.Lib.SplitLaws
import Derived.Lib.AtoiAllCases
import Derived.Lib.ItoaLen
import Derived.Lib.SplitLaws
import Derived.Lib.AtoiAllCases
import Derived.Lib.ItoaLen
import Derived.Lib.SplitLaws
namespace Go.Proofs.YtleifhnoaaphmaaGreatDoor.Pure
open Go.RowKit Go.Proofs.YtleifhnoaaphmaaGreatDoorW.PrintWords Go.Proofs.YtleifhnoaaphmaaGreatDoorW.PrintLast Go.Proofs.YtleifhnoaaphmaaGreatDoor.XFnExactWindowOf
set_option linter.unusedSimpArgs false
set_option linter.unusedVariables false

def aggB (c s mn mx f l : Int) : Bool := (c == 0 && s == 0 && mn == 0 && mx == 0 && f == 0 && l == 0) ||
  (decide (1 ≤ c) && decide (c ≤ 100000) && decide (-1000000 ≤ mn) && decide (mn ≤ 1000000) && decide (-1000000 ≤ mx) && decide (mx ≤ 1000000) && decide (mn ≤ f) && decide (f ≤ mx) && decide (mn ≤ l) && decide (l ≤ mx) && decide (c * mn ≤ s) && decide (s ≤ c * mx))
theorem within_eq (a b c : Int) : impl_within.f a b c = some (decide (b ≤ a) && decide (a ≤ c)) := by
  unfold impl_within.f; by_cases h : b ≤ a <;> simp [h]
theorem in_eq (a b c : Int) : spec_l01In.f a b c = some (decide (b ≤ a) && decide (a ≤ c)) := by
  unfold spec_l01In.f; by_cases h : b ≤ a <;> simp [h]
theorem mul_small {c m : Int} (h1 : 1 ≤ c) (h2 : c ≤ 100000) (h3 : -1000000 ≤ m) (h4 : m ≤ 1000000) : wrap64 (c * m) = c * m := by
  have a : c * m ≤ 100000 * 1000000 := by
    rcases Int.lt_or_le m 0 with h | h
    · have : c * m ≤ 0 := Int.mul_nonpos_of_nonneg_of_nonpos (by omega) (by omega)
      omega
    · exact Int.mul_le_mul h2 h4 h (by omega)
  have b : -(100000 * 1000000) ≤ c * m := by
    have h5 : c * (-m) ≤ 100000 * 1000000 := by
      rcases Int.lt_or_le (-m) 0 with h | h
      · have : c * (-m) ≤ 0 := Int.mul_nonpos_of_nonneg_of_nonpos (by omega) (by omega)
        omega
      · exact Int.mul_le_mul h2 (by omega) h (by omega)
    rw [Int.mul_neg] at h5
    omega
  unfold wrap64; omega
theorem spec_agg (c s mn mx f l : Int) : spec_AggOK.f c s mn mx f l = some (aggB c s mn mx f l) := by
  unfold spec_AggOK.f aggB spec_l02Value.f
  simp only [in_eq, Option.bind_some]
  by_cases hc : c = 0
  · subst hc; simp [Bool.and_assoc]
  · have hc' : (c == 0) = false := by simp [hc]
    rw [if_neg hc, hc']
    by_cases h1 : 1 ≤ c <;> by_cases h2 : c ≤ 100000 <;> simp only [h1, h2, decide_true, decide_false, Bool.and_true, Bool.true_and, Bool.and_false, Bool.false_and, Bool.false_or, if_true, if_false, Bool.false_eq_true]
    by_cases h3 : -1000000 ≤ mn <;> by_cases h4 : mn ≤ 1000000 <;> simp only [h3, h4, decide_true, decide_false, Bool.and_true, Bool.true_and, Bool.and_false, Bool.false_and, if_true, if_false, Bool.false_eq_true]
    by_cases h5 : -1000000 ≤ mx <;> by_cases h6 : mx ≤ 1000000 <;> simp only [h5, h6, decide_true, decide_false, Bool.and_true, Bool.true_and, Bool.and_false, Bool.false_and, if_true, if_false, Bool.false_eq_true]
    rw [mul_small h1 h2 h3 h4, mul_small h1 h2 h5 h6]
    by_cases h7 : mn ≤ f <;> by_cases h8 : f ≤ mx <;> by_cases h9 : mn ≤ l <;> by_cases h10 : l ≤ mx <;> simp [h7, h8, h9, h10]
theorem impl_agg (c s mn mx f l : Int) : impl_AggOK.f c s mn mx f l = some (aggB c s mn mx f l) := by
  rw [← spec_agg]
  unfold impl_AggOK.f spec_AggOK.f impl_isValue.f spec_l02Value.f
  simp only [in_eq, within_eq, Option.bind_some]
  by_cases hc : c = 0
  · subst hc
    by_cases h : s = 0 ∧ mn = 0 ∧ mx = 0 ∧ f = 0 ∧ l = 0
    · obtain ⟨rfl, rfl, rfl, rfl, rfl⟩ := h; simp
    · have e : ((0 : Int) == 0 && (s == 0 && (mn == 0 && (mx == 0 && (f == 0 && (l == 0)))))) = false := by
        rw [Bool.eq_false_iff]; intro h'; apply h; simpa using h'
      rw [e]; simp
  · have hc' : (c == 0) = false := by simp [hc]
    rw [if_neg hc, hc']
    simp
theorem eqAgg_same (a b c d e f : Int) : laws_eqAgg.f a b c d e f a b c d e f = some true := by simp [laws_eqAgg.f]
theorem cast_wrap {i n : Nat} (h : i < n) (hn : n ≤ 140737488351232) : wrap64 ((i : Int) + 1) = ((i + 1 : Nat) : Int) := by unfold wrap64; omega
theorem rd49_at (l : List S49) (i : Nat) (h : i < l.length) : rd_T49 l (i : Int) = l[i] := by
  unfold rd_T49; rw [Int.toNat_natCast, List.getD_eq_getElem?_getD, List.getElem?_eq_getElem h]; rfl
theorem rd75_at (l : List S75) (i : Nat) (h : i < l.length) : rd_T75 l (i : Int) = l[i] := by
  unfold rd_T75; rw [Int.toNat_natCast, List.getD_eq_getElem?_getD, List.getElem?_eq_getElem h]; rfl
theorem first3 (k : Nat) (b1 b2 b3 : Bool) (c1 c2 c3 : Int) : impl_first.f (k + 4) [anyB b1, anyI c1, anyB b2, anyI c2, anyB b3, anyI c3] = some (if b1 = true then c1 else if b2 = true then c2 else if b3 = true then c3 else 0) := by
  have w1 : wrap64 1 = 1 := by unfold wrap64; omega
  have w2 : wrap64 2 = 2 := by unfold wrap64; omega
  have w3 : wrap64 3 = 3 := by unfold wrap64; omega
  have w4 : wrap64 4 = 4 := by unfold wrap64; omega
  have w5 : wrap64 5 = 5 := by unfold wrap64; omega
  have w6 : wrap64 6 = 6 := by unfold wrap64; omega
  have w7 : wrap64 7 = 7 := by unfold wrap64; omega
  cases b1 <;> cases b2 <;> cases b3 <;> simp [impl_first.f, impl_first.l0, w1, w2, w3, w4, w5, w6, w7, rdOf, anyAsB, anyAsI]
def smp (x : S49) : Bool := (decide (0 ≤ x.f0) && decide (x.f0 ≤ 99999)) && (decide (-1000000 ≤ x.f1) && decide (x.f1 ≤ 1000000))
def rise (l : List S49) (i : Nat) : Bool := (List.range l.length).all fun j => decide (j < i) || (smp (l.getD j z49) && (decide (j = 0) || decide ((l.getD (j - 1) z49).f0 < (l.getD j z49).f0)))
theorem rise_end (l : List S49) : rise l l.length = true := by
  unfold rise
  rw [List.all_eq_true]
  intro j hj
  simp [List.mem_range.1 hj]
theorem rise_step (l : List S49) (i : Nat) (h : i < l.length) : rise l i = ((smp l[i] && (decide (i = 0) || decide ((l.getD (i - 1) z49).f0 < l[i].f0))) && rise l (i + 1)) := by
  have e : l.getD i z49 = l[i] := by rw [List.getD_eq_getElem?_getD, List.getElem?_eq_getElem h]; rfl
  rw [Bool.eq_iff_iff]
  unfold rise
  rw [Bool.and_eq_true, List.all_eq_true, List.all_eq_true]
  constructor
  · intro hh
    refine ⟨?_, fun j hj => ?_⟩
    · have := hh i (List.mem_range.2 h)
      rw [e] at this
      simpa using this
    · by_cases hji : j < i + 1
      · simp [hji]
      · have h1 : ¬ j < i := by omega
        have := hh j hj
        simp only [h1, hji, decide_false, Bool.false_or] at *
        exact this
  · rintro ⟨h1, h2⟩ j hj
    by_cases hji : j < i
    · simp [hji]
    · by_cases hje : j = i
      · subst hje; rw [e]; simpa using h1
      · have := h2 j hj
        have hn : ¬ j < i + 1 := by omega
        simp only [hn, decide_false, Bool.false_or] at this
        simp only [hji, decide_false, Bool.false_or]
        exact this
theorem sok_loops (l : List S49) (hl : l.length ≤ 1048576) (d : Nat) : ∀ (k i : Nat), i ≤ l.length → l.length - i = d → 2 * d < k →
    spec_SamplesOK.l0 k l (i : Int) = some (rise l i) ∧ impl_SamplesOK.l0 k l l (l.length : Int) (i : Int) = some (rise l i) := by
  induction d with
  | zero =>
    intro k i hi hd hk
    obtain ⟨k, rfl⟩ : ∃ m, k = m + 1 := ⟨k - 1, by omega⟩
    obtain rfl : i = l.length := by omega
    simp only [spec_SamplesOK.l0, impl_SamplesOK.l0]
    rw [if_neg (by omega), if_neg (by omega), rise_end]
    exact ⟨rfl, rfl⟩
  | succ d ih =>
    intro k i hi hd hk
    obtain ⟨k, rfl⟩ : ∃ m, k = m + 2 := ⟨k - 2, by omega⟩
    have hlt : i < l.length := by omega
    obtain ⟨h1, h2⟩ := ih k (i + 1) (by omega) (by omega) (by omega)
    have e1 : ((i : Int) < (l.length : Int)) = True := eq_true (by omega)
    have e3 : ((0 : Int) ≤ (i : Int)) = True := eq_true (by omega)
    simp only [spec_SamplesOK.l0, impl_SamplesOK.l0, spec_SamplesOK.j1, impl_SamplesOK.j1, Bool.false_eq_true, if_false, decide_eq_true_eq, spec_l02Sample.f, impl_isMoment.f, impl_isValue.f, within_eq, in_eq, Option.bind_some, e1, e3, if_true]
    rw [rd49_at l i hlt, cast_wrap hlt (by omega), h1, h2, rise_step l i hlt]
    rcases Nat.eq_zero_or_pos i with h0 | h0
    · subst h0
      unfold smp
      cases (decide (0 ≤ l[0].f0) && decide (l[0].f0 ≤ 99999)) <;> cases (decide (-1000000 ≤ l[0].f1) && decide (l[0].f1 ≤ 1000000)) <;> simp
    · have hw : wrap64 ((i : Int) - 1) = ((i - 1 : Nat) : Int) := by unfold wrap64; omega
      have hp : ((i : Int) > 0) = True := eq_true (by omega)
      have hz : (0 : Int) ≤ ((i - 1 : Nat) : Int) := by omega
      have hq : ((i - 1 : Nat) : Int) < (l.length : Int) := by omega
      have hi0 : decide (i = 0) = false := decide_eq_false (by omega)
      have e1 : rd_T49 l ((i - 1 : Nat) : Int) = l.getD (i - 1) z49 := by unfold rd_T49; rw [Int.toNat_natCast]
      rw [hw, e1, hi0, Bool.false_or]
      simp only [hp, if_true, if_pos hz, if_pos hq]
      unfold smp
      generalize (l.getD (i - 1) z49).f0 = p
      generalize l[i].f0 = q
      generalize (decide (-1000000 ≤ l[i].f1) && decide (l[i].f1 ≤ 1000000)) = b
      generalize (decide (0 ≤ q) && decide (q ≤ 99999)) = a
      generalize rise l (i + 1) = r
      by_cases hpq : p < q
      · have e2 : ¬ p ≥ q := by omega
        have e3 : ¬ q ≤ p := by omega
        cases a <;> cases b <;> simp [hpq, e3]
      · have e2 : p ≥ q := by omega
        cases a <;> cases b <;> simp [hpq, e2]
def sokB (l : List S49) : Bool := !decide ((l.length : Int) > 4096) && rise l 0
theorem sok_eq (l : List S49) (hl : l.length ≤ 1048576) (k : Nat) (hk : 2 * l.length < k) : spec_SamplesOK.f k l = some (sokB l) ∧ impl_SamplesOK.f k l = some (sokB l) := by
  obtain ⟨h1, h2⟩ := sok_loops l hl l.length k 0 (by omega) (by omega) hk
  unfold spec_SamplesOK.f impl_SamplesOK.f impl_Sample.f sokB
  simp only [Option.bind_some]
  have e : ((0 : Nat) : Int) = 0 := rfl
  rw [e] at h1 h2
  rw [h1, h2]
  by_cases h : (l.length : Int) > 4096
  · simp [h]
  · simp [h]
def bkt (x : S75) : Bool := ((decide (0 ≤ x.f0) && decide (x.f0 ≤ 99999)) && aggB x.f1.f0 x.f1.f1 x.f1.f2 x.f1.f3 x.f1.f4 x.f1.f5) && !decide (x.f1.f0 = 0)
def riseB (l : List S75) (i : Nat) : Bool := (List.range l.length).all fun j => decide (j < i) || (bkt (l.getD j z75) && (decide (j = 0) || decide ((l.getD (j - 1) z75).f0 < (l.getD j z75).f0)))
theorem riseB_end (l : List S75) : riseB l l.length = true := by
  unfold riseB
  rw [List.all_eq_true]
  intro j hj
  simp [List.mem_range.1 hj]
theorem riseB_step (l : List S75) (i : Nat) (h : i < l.length) : riseB l i = ((bkt l[i] && (decide (i = 0) || decide ((l.getD (i - 1) z75).f0 < l[i].f0))) && riseB l (i + 1)) := by
  have e : l.getD i z75 = l[i] := by rw [List.getD_eq_getElem?_getD, List.getElem?_eq_getElem h]; rfl
  rw [Bool.eq_iff_iff]
  unfold riseB
  rw [Bool.and_eq_true, List.all_eq_true, List.all_eq_true]
  constructor
  · intro hh
    refine ⟨?_, fun j hj => ?_⟩
    · have := hh i (List.mem_range.2 h)
      rw [e] at this
      simpa using this
    · by_cases hji : j < i + 1
      · simp [hji]
      · have h1 : ¬ j < i := by omega
        have := hh j hj
        simp only [h1, hji, decide_false, Bool.false_or] at *
        exact this
  · rintro ⟨h1, h2⟩ j hj
    by_cases hji : j < i
    · simp [hji]
    · by_cases hje : j = i
      · subst hje; rw [e]; simpa using h1
      · have := h2 j hj
        have hn : ¬ j < i + 1 := by omega
        simp only [hn, decide_false, Bool.false_or] at this
        simp only [hji, decide_false, Bool.false_or]
        exact this
theorem bspec_loop (l : List S75) (hl : l.length ≤ 1048576) (d : Nat) : ∀ (k i : Nat), i ≤ l.length → l.length - i = d → 2 * d < k →
    spec_BucketsOK.l0 k l (i : Int) = some (riseB l i && decide ((l.length : Int) ≤ 8)) := by
  induction d with
  | zero =>
    intro k i hi hd hk
    obtain ⟨k, rfl⟩ : ∃ m, k = m + 1 := ⟨k - 1, by omega⟩
    obtain rfl : i = l.length := by omega
    simp only [spec_BucketsOK.l0]
    rw [if_neg (by omega), riseB_end, Bool.true_and]
  | succ d ih =>
    intro k i hi hd hk
    obtain ⟨k, rfl⟩ : ∃ m, k = m + 2 := ⟨k - 2, by omega⟩
    have hlt : i < l.length := by omega
    have h1 := ih k (i + 1) (by omega) (by omega) (by omega)
    simp only [spec_BucketsOK.l0, spec_BucketsOK.j1, in_eq, spec_agg, Option.bind_some]
    rw [if_pos (by omega), if_pos (by omega), rd75_at l i hlt, cast_wrap hlt (by omega), h1, riseB_step l i hlt]
    unfold bkt
    generalize (decide (0 ≤ l[i].f0) && decide (l[i].f0 ≤ 99999)) = a
    generalize aggB l[i].f1.f0 l[i].f1.f1 l[i].f1.f2 l[i].f1.f3 l[i].f1.f4 l[i].f1.f5 = b
    generalize riseB l (i + 1) = r
    generalize decide ((l.length : Int) ≤ 8) = m
    cases a with
    | false => simp
    | true =>
      cases b with
      | false => simp
      | true =>
        by_cases hc : l[i].f1.f0 = 0
        · simp [hc]
        · rcases Nat.eq_zero_or_pos i with h0 | h0
          · subst h0; simp [hc]
          · have hw : wrap64 ((i : Int) - 1) = ((i - 1 : Nat) : Int) := by unfold wrap64; omega
            have hp : ((i : Int) > 0) = True := eq_true (by omega)
            have hz : (0 : Int) ≤ ((i - 1 : Nat) : Int) := by omega
            have hq : ((i - 1 : Nat) : Int) < (l.length : Int) := by omega
            have hi0 : decide (i = 0) = false := decide_eq_false (by omega)
            have e1 : rd_T75 l ((i - 1 : Nat) : Int) = l.getD (i - 1) z75 := by unfold rd_T75; rw [Int.toNat_natCast]
            rw [hw, e1, hi0, Bool.false_or]
            simp only [hp, if_true, if_pos hz, if_pos hq, hc, if_false]
            generalize (l.getD (i - 1) z75).f0 = p
            generalize l[i].f0 = q
            by_cases hpq : p < q
            · have e2 : ¬ p ≥ q := by omega
              simp [hpq, e2]
            · have e2 : p ≥ q := by omega
              simp [hpq, e2]
theorem bimpl_loop (l : List S75) (hl : l.length ≤ 8) (d : Nat) : ∀ (k i : Nat), i ≤ l.length → l.length - i = d → 2 * d < k →
    impl_BucketsOK.l0 k l l (l.length : Int) (i : Int) = some (riseB l i) := by
  induction d with
  | zero =>
    intro k i hi hd hk
    obtain ⟨k, rfl⟩ : ∃ m, k = m + 1 := ⟨k - 1, by omega⟩
    obtain rfl : i = l.length := by omega
    simp only [impl_BucketsOK.l0]
    rw [if_neg (by omega), riseB_end]
  | succ d ih =>
    intro k i hi hd hk
    obtain ⟨k, rfl⟩ : ∃ m, k = m + 2 := ⟨k - 2, by omega⟩
    have hlt : i < l.length := by omega
    have h1 := ih k (i + 1) (by omega) (by omega) (by omega)
    simp only [impl_BucketsOK.l0, impl_BucketsOK.j1, impl_isMoment.f, within_eq, impl_agg, Option.bind_some]
    rw [if_pos (by omega), if_pos (by omega), if_pos (by omega), if_neg (by omega), rd75_at l i hlt, cast_wrap hlt (by omega), h1, riseB_step l i hlt]
    unfold bkt
    generalize (decide (0 ≤ l[i].f0) && decide (l[i].f0 ≤ 99999)) = a
    generalize aggB l[i].f1.f0 l[i].f1.f1 l[i].f1.f2 l[i].f1.f3 l[i].f1.f4 l[i].f1.f5 = b
    generalize riseB l (i + 1) = r
    cases a with
    | false => simp
    | true =>
      cases b with
      | false => simp
      | true =>
        by_cases hc : l[i].f1.f0 = 0
        · simp [hc]
        · rcases Nat.eq_zero_or_pos i with h0 | h0
          · subst h0; simp [hc]
          · have hw : wrap64 ((i : Int) - 1) = ((i - 1 : Nat) : Int) := by unfold wrap64; omega
            have hp : ((i : Int) > 0) = True := eq_true (by omega)
            have hz : (0 : Int) ≤ ((i - 1 : Nat) : Int) := by omega
            have hq : ((i - 1 : Nat) : Int) < (l.length : Int) := by omega
            have hi0 : decide (i = 0) = false := decide_eq_false (by omega)
            have e1 : rd_T75 l ((i - 1 : Nat) : Int) = l.getD (i - 1) z75 := by unfold rd_T75; rw [Int.toNat_natCast]
            rw [hw, e1, hi0, Bool.false_or]
            simp only [hp, if_true, if_pos hz, if_pos hq, hc, if_false]
            generalize (l.getD (i - 1) z75).f0 = p
            generalize l[i].f0 = q
            by_cases hpq : p < q
            · have e2 : ¬ q ≤ p := by omega
              simp [hpq, e2]
            · have e2 : q ≤ p := by omega
              simp [hpq, e2]
theorem bimpl_long (l : List S75) (hl : 8 < l.length) (d : Nat) : ∀ (k i : Nat), i ≤ 8 → 8 - i = d → 2 * d + 2 ≤ k → impl_BucketsOK.l0 k l l (l.length : Int) (i : Int) = some false := by
  induction d with
  | zero =>
    intro k i hi hd hk
    obtain ⟨k, rfl⟩ : ∃ m, k = m + 2 := ⟨k - 2, by omega⟩
    obtain rfl : i = 8 := by omega
    simp only [impl_BucketsOK.l0, impl_BucketsOK.j1]
    rw [if_pos (by omega), if_pos (by omega), if_pos (by omega), if_pos (by omega), if_pos trivial]
  | succ d ih =>
    intro k i hi hd hk
    obtain ⟨k, rfl⟩ : ∃ m, k = m + 2 := ⟨k - 2, by omega⟩
    have hlt : i < l.length := by omega
    have h1 := ih k (i + 1) (by omega) (by omega) (by omega)
    have hcw : wrap64 ((i : Int) + 1) = ((i + 1 : Nat) : Int) := by unfold wrap64; omega
    simp only [impl_BucketsOK.l0, impl_BucketsOK.j1, impl_isMoment.f, within_eq, impl_agg, Option.bind_some]
    rw [if_pos (by omega), if_pos (by omega), if_pos (by omega), if_neg (by omega), hcw, h1]
    have hpr : ∀ (x : Prop) [Decidable x], (if x then some false else some false) = (some false : Option Bool) := fun x _ => by split <;> rfl
    by_cases h0 : (i : Int) > 0
    · have hw : wrap64 ((i : Int) - 1) = ((i - 1 : Nat) : Int) := by unfold wrap64; omega
      have hz : (0 : Int) ≤ ((i - 1 : Nat) : Int) := by omega
      have hq : ((i - 1 : Nat) : Int) < (l.length : Int) := by omega
      rw [hw]
      simp only [if_pos h0, if_pos hz, if_pos hq, hpr]
    · simp only [if_neg h0, hpr]
def bokB (l : List S75) : Bool := riseB l 0 && decide ((l.length : Int) ≤ 8)
theorem bok_eq (l : List S75) (hl : l.length ≤ 1048576) (k : Nat) (hk : 2 * l.length + 20 < k) : spec_BucketsOK.f k l = some (bokB l) ∧ impl_BucketsOK.f k l = some (bokB l) := by
  have h1 := bspec_loop l hl l.length k 0 (by omega) (by omega) (by omega)
  unfold spec_BucketsOK.f impl_BucketsOK.f bokB
  constructor
  · by_cases h : (l.length : Int) > 4096
    · rw [if_pos h]
      have : decide ((l.length : Int) ≤ 8) = false := decide_eq_false (by omega)
      rw [this, Bool.and_false]
    · rw [if_neg h]; exact h1
  · by_cases h8 : l.length ≤ 8
    · have h2 := bimpl_loop l h8 l.length k 0 (by omega) (by omega) (by omega)
      have : decide ((l.length : Int) ≤ 8) = true := decide_eq_true (by omega)
      rw [this, Bool.and_true]
      exact h2
    · have h2 := bimpl_long l (by omega) 8 k 0 (by omega) (by omega) (by omega)
      have : decide ((l.length : Int) ≤ 8) = false := decide_eq_false (by omega)
      rw [this, Bool.and_false]
      exact h2
theorem dig_one (c : Nat) (hc : c < 10) : strOfNums [(wrap64 (48 + (c : Int))) % 256] = (⟨#[UInt8.ofNat (48 + c)]⟩ : ByteArray) := by
  have e : (wrap64 (48 + (c : Int))) % 256 = ((48 + c : Nat) : Int) := by unfold wrap64; omega
  rw [e]
  unfold strOfNums
  rw [List.map_cons, List.map_nil, Int.toNat_natCast]
theorem mk_append (a b : List UInt8) : (⟨a.toArray⟩ : ByteArray) ++ (⟨b.toArray⟩ : ByteArray) = ⟨(a ++ b).toArray⟩ := by
  apply ByteArray.ext
  simp [ByteArray.data_append]
theorem dig_nat (d : Nat) : ∀ (k u : Nat), u < 10 ^ (d + 1) → u ≤ 9223372036854775807 → d < k → d < 100 → spec_l00Digits.f k (u : Int) = some ⟨(Lib.decDigits u).toArray⟩ ∧ (Lib.decDigits u).length ≤ d + 1 := by
  induction d with
  | zero =>
    intro k u hu h0 hk hd
    obtain ⟨k, rfl⟩ : ∃ m, k = m + 1 := ⟨k - 1, by omega⟩
    simp only [spec_l00Digits.f]
    rw [if_neg (by omega), if_neg (by omega), if_pos (by omega), dig_one u (by omega), Lib.decDigits_one (by omega)]
    exact ⟨rfl, by simp⟩
  | succ d ih =>
    intro k u hu h0 hk hd
    obtain ⟨k, rfl⟩ : ∃ m, k = m + 1 := ⟨k - 1, by omega⟩
    simp only [spec_l00Digits.f]
    by_cases h : u < 10
    · rw [if_neg (by omega), if_neg (by omega), if_pos (by omega), dig_one u h, Lib.decDigits_one h]
      exact ⟨rfl, by simp⟩
    · have hp : 10 ^ (d + 1 + 1) = 10 ^ (d + 1) * 10 := Nat.pow_succ ..
      have e1 : wrap64 (Int.tdiv (u : Int) 10) = ((u / 10 : Nat) : Int) := by
        have : Int.tdiv (u : Int) 10 = ((u / 10 : Nat) : Int) := by
          rw [Int.tdiv_eq_ediv_of_nonneg (by omega)]; rfl
        rw [this]; unfold wrap64; omega
      have e2 : Int.tmod (u : Int) 10 = ((u % 10 : Nat) : Int) := by
        rw [Int.tmod_eq_emod_of_nonneg (by omega)]; rfl
      obtain ⟨i1, i2⟩ := ih k (u / 10) (by omega) (by omega) (by omega) (by omega)
      rw [if_neg (by omega), if_neg (by omega), if_neg (by omega), e1, i1, e2]
      simp only [Option.bind_some]
      rw [dig_one (u % 10) (by omega), if_pos]
      · have hd : Lib.decDigits u = Lib.decDigits (u / 10) ++ [UInt8.ofNat (48 + u % 10)] := by
          conv => lhs; rw [Lib.decDigits]
          rw [dif_neg h]
        rw [hd, ← mk_append]
        refine ⟨rfl, ?_⟩
        rw [List.length_append, List.length_singleton]
        omega
      · show ((Lib.decDigits (u / 10)).toArray).size + 1 ≤ _
        rw [List.size_toArray]
        omega
theorem digits_eq (n : Int) (h0 : -9223372036854775808 ≤ n) (h1 : n ≤ 9223372036854775807) (k : Nat) (hk : 21 ≤ k) : spec_l00Digits.f k n = some ⟨(Lib.itoa n).toArray⟩ := by
  obtain ⟨k, rfl⟩ : ∃ m, k = m + 1 := ⟨k - 1, by omega⟩
  by_cases hn : n < 0
  · by_cases hm : n = -9223372036854775808
    · subst hm
      simp only [spec_l00Digits.f]
      rw [if_pos trivial]
      have e : Lib.itoa (-9223372036854775808) = 45 :: Lib.decDigits 9223372036854775808 := by unfold Lib.itoa; rw [if_pos (by decide)]; rfl
      have hq : Lib.decDigits 9223372036854775808 = Lib.decDigits 922337203685477580 ++ [UInt8.ofNat (48 + 8)] := by
        conv => lhs; rw [Lib.decDigits]
        rw [dif_neg (by decide)]
      rw [e, hq]
      simp [Lib.decDigits]
    · obtain ⟨u, rfl⟩ : ∃ u : Nat, n = -(u : Int) := ⟨n.natAbs, by omega⟩
      have e : wrap64 (-(-(u : Int))) = (u : Int) := by unfold wrap64; omega
      obtain ⟨i1, i2⟩ := dig_nat 19 k u (by omega) (by omega) (by omega) (by omega)
      simp only [spec_l00Digits.f]
      rw [if_neg hm, if_pos hn, e, i1]
      simp only [Option.bind_some]
      rw [if_pos]
      · have : Lib.itoa (-(u : Int)) = [45] ++ Lib.decDigits u := by unfold Lib.itoa; rw [if_pos hn]; simp
        rw [this, ← mk_append]
      · show 1 + ((Lib.decDigits u).toArray).size ≤ _
        rw [List.size_toArray]
        omega
  · obtain ⟨u, rfl⟩ : ∃ u : Nat, n = (u : Int) := ⟨n.toNat, by omega⟩
    rw [(dig_nat 19 (k + 1) u (by omega) (by omega) (by omega) (by omega)).1]
    have : Lib.itoa (u : Int) = Lib.decDigits u := by unfold Lib.itoa; rw [if_neg hn]; simp
    rw [this]
def fw : Nat → Nat → List UInt8
  | 0, _ => []
  | w + 1, u => fw w (u / 10) ++ [UInt8.ofNat (48 + u % 10)]
theorem fw_length : ∀ w u, (fw w u).length = w
  | 0, _ => rfl
  | w + 1, u => by simp [fw, fw_length w]
theorem dec_step (u : Nat) (h : ¬ u < 10) : Lib.decDigits u = Lib.decDigits (u / 10) ++ [UInt8.ofNat (48 + u % 10)] := by
  conv => lhs; rw [Lib.decDigits]
  rw [dif_neg h]
theorem fw_dec : ∀ (w u : Nat), u < 10 ^ w → Lib.decDigits (10 ^ w + u) = 49 :: fw w u
  | 0, u, h => by
    obtain rfl : u = 0 := by simpa using h
    rw [Lib.decDigits_one (by decide)]
    rfl
  | w + 1, u, h => by
    have hp : 10 ^ (w + 1) = 10 ^ w * 10 := Nat.pow_succ ..
    have h1 : 1 ≤ 10 ^ w := Nat.one_le_pow _ _ (by decide)
    rw [dec_step _ (by omega), show (10 ^ (w + 1) + u) / 10 = 10 ^ w + u / 10 by omega, show (10 ^ (w + 1) + u) % 10 = u % 10 by omega, fw_dec w (u / 10) (by omega)]
    rfl
theorem fw_pad : ∀ (w u : Nat), u < 10 ^ (w + 1) → fw (w + 1) u = List.replicate (w + 1 - (Lib.decDigits u).length) 48 ++ Lib.decDigits u ∧ (Lib.decDigits u).length ≤ w + 1
  | 0, u, h => by
    have hu : u < 10 := by simpa using h
    rw [Lib.decDigits_one hu]
    simp [fw, Nat.mod_eq_of_lt hu]
  | w + 1, u, h => by
    have hp : 10 ^ (w + 1 + 1) = 10 ^ (w + 1) * 10 := Nat.pow_succ ..
    obtain ⟨i1, i2⟩ := fw_pad w (u / 10) (by omega)
    rw [fw, i1]
    by_cases hu : u < 10
    · have h0 : u / 10 = 0 := by omega
      rw [h0, Lib.decDigits_one (show 0 < 10 by decide), Lib.decDigits_one hu, Nat.mod_eq_of_lt hu]
      refine ⟨?_, by simp⟩
      have e : UInt8.ofNat (48 + 0) = 48 := rfl
      rw [e]
      simp only [List.length_singleton, Nat.add_sub_cancel]
      rw [show w + 1 = (w + 1) from rfl, List.replicate_succ' (n := w)]
    · rw [dec_step u hu]
      refine ⟨?_, by simp; omega⟩
      rw [List.length_append, List.length_singleton, ← List.append_assoc]
      congr 3
      omega
theorem wide_loop (d : Nat) : ∀ (k : Nat) (l : List UInt8), l.length ≤ 6 → 6 - l.length = d → d < k → spec_l03Wide.l0 k 6 ⟨l.toArray⟩ = some ⟨(List.replicate d 48 ++ l).toArray⟩ := by
  induction d with
  | zero =>
    intro k l hl hd hk
    obtain ⟨k, rfl⟩ : ∃ m, k = m + 1 := ⟨k - 1, by omega⟩
    simp only [spec_l03Wide.l0]
    rw [if_neg]
    · rfl
    · show ¬ ((l.toArray.size : Nat) : Int) < 6
      rw [List.size_toArray]; omega
  | succ d ih =>
    intro k l hl hd hk
    obtain ⟨k, rfl⟩ : ∃ m, k = m + 1 := ⟨k - 1, by omega⟩
    simp only [spec_l03Wide.l0]
    rw [if_pos, if_pos]
    · have e : (⟨#[48]⟩ : ByteArray) ++ (⟨l.toArray⟩ : ByteArray) = ⟨(48 :: l).toArray⟩ := mk_append [48] l
      rw [e, ih k (48 :: l) (by simp; omega) (by simp; omega) (by omega), List.replicate_succ', List.append_assoc]
      rfl
    · show 1 + l.toArray.size ≤ _
      rw [List.size_toArray]; omega
    · show ((l.toArray.size : Nat) : Int) < 6
      rw [List.size_toArray]; omega
def s6 (n : Int) : ByteArray := ⟨(fw 6 n.toNat).toArray⟩
theorem s6_size (n : Int) : (s6 n).size = 6 := by
  show (fw 6 n.toNat).toArray.size = 6
  rw [List.size_toArray, fw_length]
theorem wide_eq (n : Int) (h0 : 0 ≤ n) (h1 : n ≤ 999999) (k : Nat) (hk : 21 ≤ k) : spec_l03Wide.f k n 6 = some (s6 n) := by
  obtain ⟨u, rfl⟩ : ∃ u : Nat, n = (u : Int) := ⟨n.toNat, by omega⟩
  unfold spec_l03Wide.f
  rw [digits_eq _ (by omega) (by omega) k hk]
  simp only [Option.bind_some]
  have e : Lib.itoa (u : Int) = Lib.decDigits u := by unfold Lib.itoa; rw [if_neg (by omega)]; simp
  obtain ⟨p1, p2⟩ := fw_pad 5 u (by omega)
  rw [e, wide_loop (6 - (Lib.decDigits u).length) k _ p2 rfl (by omega)]
  unfold s6
  rw [Int.toNat_natCast, p1]
theorem six_eq (n : Int) (h0 : 0 ≤ n) (h1 : n ≤ 999999) : impl_six.f n = some (s6 n) := by
  obtain ⟨u, rfl⟩ : ∃ u : Nat, n = (u : Int) := ⟨n.toNat, by omega⟩
  have hw : wrap64 (1000000 + (u : Int)) = ((10 ^ 6 + u : Nat) : Int) := by unfold wrap64; omega
  unfold impl_six.f strconv_Itoa.f
  rw [hw, if_pos (by omega)]
  have e : Lib.itoa ((10 ^ 6 + u : Nat) : Int) = 49 :: fw 6 u := by
    unfold Lib.itoa
    rw [if_neg (by omega), Int.toNat_natCast, fw_dec 6 u (by omega)]
  simp only [Option.bind_some]
  rw [e]
  have hsz : (⟨(49 :: fw 6 u).toArray⟩ : ByteArray).size = 7 := by
    show (49 :: fw 6 u).toArray.size = 7
    rw [List.size_toArray, List.length_cons, fw_length]
  rw [hsz, if_pos (by decide)]
  unfold s6
  rw [Int.toNat_natCast]
  have hx : (⟨(49 :: fw 6 u).toArray⟩ : ByteArray).extract 1 7 = ⟨(fw 6 u).toArray⟩ := by
    apply ByteArray.ext
    rw [ByteArray.data_extract]
    simp [List.extract, fw_length]
    exact List.take_of_length_le (by rw [fw_length]; omega)
  rw [hx]
def pre3 (a : Int) : List UInt8 := if a = 0 then [114, 97, 119, 47] else if a = 1 then [116, 49, 47] else [116, 50, 47]
def keyB (a b c : Int) : ByteArray := ⟨(pre3 a ++ fw 6 b.toNat ++ [45] ++ fw 6 c.toNat).toArray⟩
theorem key_spec (a b c : Int) (h1 : 0 ≤ a ∧ a ≤ 2) (h2 : 0 ≤ b ∧ b ≤ 999999) (h3 : 0 ≤ c ∧ c ≤ 999999) (k : Nat) (hk : 21 ≤ k) : spec_l03Key.f k a b c = some (keyB a b c) := by
  unfold spec_l03Key.f
  rw [wide_eq b h2.1 h2.2 k hk, wide_eq c h3.1 h3.2 k hk]
  simp only [Option.bind_some]
  have hs := s6_size b
  have ht := s6_size c
  have hz : ∀ (l : List UInt8), (⟨l.toArray⟩ : ByteArray).size = l.length := fun l => by show l.toArray.size = _; rw [List.size_toArray]
  rw [if_pos h1.1, if_pos (by show a < (3 : Int); omega)]
  have hx : rdOf ByteArray.empty [(⟨#[114, 97, 119]⟩ : ByteArray), (⟨#[116, 49]⟩ : ByteArray), (⟨#[116, 50]⟩ : ByteArray)] a = if a = 0 then (⟨#[114, 97, 119]⟩ : ByteArray) else if a = 1 then (⟨#[116, 49]⟩ : ByteArray) else (⟨#[116, 50]⟩ : ByteArray) := by
    have : a = 0 ∨ a = 1 ∨ a = 2 := by omega
    rcases this with rfl | rfl | rfl <;> rfl
  rw [hx]
  have ex : (if a = 0 then (⟨#[114, 97, 119]⟩ : ByteArray) else if a = 1 then (⟨#[116, 49]⟩ : ByteArray) else (⟨#[116, 50]⟩ : ByteArray)) ++ (⟨#[47]⟩ : ByteArray) = ⟨(pre3 a).toArray⟩ := by
    unfold pre3
    split
    · rfl
    · split <;> rfl
  have hl : (pre3 a).length ≤ 4 := by
    unfold pre3
    split
    · decide
    · split <;> decide
  have hy : (if a = 0 then (⟨#[114, 97, 119]⟩ : ByteArray) else if a = 1 then (⟨#[116, 49]⟩ : ByteArray) else (⟨#[116, 50]⟩ : ByteArray)).size ≤ 3 := by
    split
    · decide
    · split <;> decide
  rw [if_pos (by omega), ex, if_pos (by rw [hz]; omega)]
  have e2 : (⟨(pre3 a).toArray⟩ : ByteArray) ++ s6 b = ⟨(pre3 a ++ fw 6 b.toNat).toArray⟩ := mk_append _ _
  have e3 : (⟨(pre3 a ++ fw 6 b.toNat).toArray⟩ : ByteArray) ++ (⟨#[45]⟩ : ByteArray) = ⟨(pre3 a ++ fw 6 b.toNat ++ [45]).toArray⟩ := mk_append _ [45]
  have e4 : (⟨(pre3 a ++ fw 6 b.toNat ++ [45]).toArray⟩ : ByteArray) ++ s6 c = keyB a b c := mk_append _ _
  rw [e2, if_pos (by rw [hz, List.length_append, fw_length]; omega), e3, if_pos (by rw [hz, List.length_append, List.length_append, fw_length, List.length_singleton]; omega), e4]
theorem size_mk (l : List UInt8) : (⟨l.toArray⟩ : ByteArray).size = l.length := by
  show l.toArray.size = l.length
  rw [List.size_toArray]
theorem mk_data (s : ByteArray) : (⟨s.data.toList.toArray⟩ : ByteArray) = s := by
  cases s
  simp
theorem bt_mk (l : List UInt8) (i : Nat) (h : i < l.length) : bt ⟨l.toArray⟩ (i : Int) = ((l[i].toNat : Nat) : Int) := by
  rw [← bt_at _ _ (by rw [Int.toNat_natCast, size_mk]; exact h)]
  simp only [Int.toNat_natCast]
  rfl
theorem extract_mk (l : List UInt8) (i : Nat) : (⟨l.toArray⟩ : ByteArray).extract i (⟨l.toArray⟩ : ByteArray).size = ⟨(l.drop i).toArray⟩ := by
  rw [size_mk]
  apply ByteArray.ext
  rw [ByteArray.data_extract]
  simp [List.extract, List.take_of_length_le]
def isDig (c : UInt8) : Bool := decide (48 ≤ c.toNat) && decide (c.toNat ≤ 57)
def dval (a : Nat) (l : List UInt8) : Nat := l.foldl (fun a c => a * 10 + (c.toNat - 48)) a
theorem dval_cons (a : Nat) (c : UInt8) (l : List UInt8) : dval a (c :: l) = dval (a * 10 + (c.toNat - 48)) l := by
  unfold dval
  rw [List.foldl_cons]
theorem dval_append (a : Nat) (l : List UInt8) (c : UInt8) : dval a (l ++ [c]) = dval a l * 10 + (c.toNat - 48) := by
  unfold dval
  rw [List.foldl_append, List.foldl_cons, List.foldl_nil]
theorem dval_ge (l : List UInt8) : ∀ a, a ≤ dval a l := by
  induction l with
  | nil => intro a; exact Nat.le_refl a
  | cons c l ih =>
    intro a
    rw [dval_cons]
    have := ih (a * 10 + (c.toNat - 48))
    omega
theorem dval_lt (l : List UInt8) : ∀ a, (l.all isDig) = true → dval a l < (a + 1) * 10 ^ l.length := by
  induction l with
  | nil => intro a _; simp [dval]
  | cons c l ih =>
    intro a h
    rw [List.all_cons, Bool.and_eq_true] at h
    have h1 : c.toNat ≤ 57 := by have := h.1; simp [isDig] at this; omega
    have := ih (a * 10 + (c.toNat - 48)) h.2
    rw [dval_cons, List.length_cons, Nat.pow_succ]
    refine Nat.lt_of_lt_of_le this ?_
    have e : (a + 1) * (10 ^ l.length * 10) = ((a + 1) * 10) * 10 ^ l.length := by rw [Nat.mul_comm (10 ^ l.length) 10, Nat.mul_assoc]
    rw [e]
    exact Nat.mul_le_mul_right _ (by omega)
theorem parse_ok (l : List UInt8) : ∀ a, (l.all isDig) = true → dval a l ≤ 1000000000000000000 → Lib.parseUint10 a l = .ok (dval a l) := by
  induction l with
  | nil => intro a _ _; rfl
  | cons c l ih =>
    intro a h hb
    rw [List.all_cons, Bool.and_eq_true] at h
    have hc : 48 ≤ c.toNat ∧ c.toNat ≤ 57 := by have := h.1; simp [isDig] at this; omega
    rw [dval_cons] at hb ⊢
    have hg := dval_ge l (a * 10 + (c.toNat - 48))
    simp only [Lib.parseUint10]
    rw [if_pos hc, if_neg (by omega), if_neg (by omega)]
    exact ih _ h.2 hb
theorem ofNat_toNat (n : Nat) (h : n < 256) : (UInt8.ofNat n).toNat = n := by
  simp only [UInt8.toNat_ofNat']
  omega
theorem dec_dig (d : Nat) : ∀ u, u ≤ d → ((Lib.decDigits u).all isDig) = true ∧ dval 0 (Lib.decDigits u) = u ∧ Lib.decDigits u ≠ [] := by
  induction d with
  | zero =>
    intro u h
    obtain rfl : u = 0 := by omega
    rw [Lib.decDigits_one (by decide)]
    exact ⟨by decide, by decide, by simp⟩
  | succ d ih =>
    intro u h
    by_cases hu : u < 10
    · rw [Lib.decDigits_one hu]
      have e := ofNat_toNat (48 + u) (by omega)
      refine ⟨?_, ?_, by simp⟩
      · simp only [List.all_cons, List.all_nil, Bool.and_true, isDig, e]
        simp
        omega
      · show 0 * 10 + ((UInt8.ofNat (48 + u)).toNat - 48) = u
        rw [e]; omega
    · have hs : Lib.decDigits u = Lib.decDigits (u / 10) ++ [UInt8.ofNat (48 + u % 10)] := by
        conv => lhs; rw [Lib.decDigits]
        rw [dif_neg hu]
      obtain ⟨i1, i2, i3⟩ := ih (u / 10) (by omega)
      have e := ofNat_toNat (48 + u % 10) (by omega)
      rw [hs]
      refine ⟨?_, ?_, by simp⟩
      · rw [List.all_append, i1]
        simp only [List.all_cons, List.all_nil, Bool.and_true, isDig, e, Bool.true_and]
        simp
        omega
      · rw [dval_append, i2, e]; omega
theorem dec_head (d : Nat) : ∀ u, u ≤ d → 1 ≤ u → ∃ c l, Lib.decDigits u = c :: l ∧ c.toNat ≠ 48 := by
  induction d with
  | zero => intro u h h1; omega
  | succ d ih =>
    intro u h h1
    by_cases hu : u < 10
    · rw [Lib.decDigits_one hu]
      exact ⟨_, _, rfl, by rw [ofNat_toNat _ (by omega)]; omega⟩
    · have hs : Lib.decDigits u = Lib.decDigits (u / 10) ++ [UInt8.ofNat (48 + u % 10)] := by
        conv => lhs; rw [Lib.decDigits]
        rw [dif_neg hu]
      obtain ⟨c, l, e, hc⟩ := ih (u / 10) (by omega) (by omega)
      rw [hs, e]
      exact ⟨c, _, rfl, hc⟩
theorem dec_len (w : Nat) : ∀ u, u < 10 ^ (w + 1) → (Lib.decDigits u).length ≤ w + 1 := by
  induction w with
  | zero => intro u h; rw [Lib.decDigits_one (by simpa using h)]; simp
  | succ w ih =>
    intro u h
    have hp : 10 ^ (w + 1 + 1) = 10 ^ (w + 1) * 10 := Nat.pow_succ ..
    by_cases hu : u < 10
    · rw [Lib.decDigits_one hu]; simp
    · have hs : Lib.decDigits u = Lib.decDigits (u / 10) ++ [UInt8.ofNat (48 + u % 10)] := by
        conv => lhs; rw [Lib.decDigits]
        rw [dif_neg hu]
      rw [hs, List.length_append, List.length_singleton]
      have := ih (u / 10) (by omega)
      omega
theorem itoa_of_nat (u : Nat) : Lib.itoa (u : Int) = Lib.decDigits u := by unfold Lib.itoa; rw [if_neg (by omega)]; simp
theorem itoa_of_neg (u : Nat) (h : 1 ≤ u) : Lib.itoa (-(u : Int)) = 45 :: Lib.decDigits u := by unfold Lib.itoa; rw [if_pos (by omega)]; simp
theorem atoi_itoa (v : Int) (h0 : -1000000000000000000 < v) (h1 : v < 1000000000000000000) : Lib.atoiAll (Lib.itoa v) = .ok v := by
  by_cases hv : v < 0
  · obtain ⟨u, rfl⟩ : ∃ u : Nat, v = -(u : Int) := ⟨v.natAbs, by omega⟩
    rw [itoa_of_neg u (by omega), Lib.atoiAll_minus]
    obtain ⟨i1, i2, i3⟩ := dec_dig u u (Nat.le_refl u)
    have hp : Lib.parseMag (Lib.decDigits u) = .ok u := by
      unfold Lib.parseMag
      rw [if_neg i3, parse_ok _ 0 i1 (by rw [i2]; omega), i2]
    rw [hp]
    unfold Lib.signed
    simp only
    rw [if_neg (by omega)]
  · obtain ⟨u, rfl⟩ : ∃ u : Nat, v = (u : Int) := ⟨v.toNat, by omega⟩
    rw [itoa_of_nat u]
    obtain ⟨i1, i2, i3⟩ := dec_dig u u (Nat.le_refl u)
    have hp : Lib.parseMag (Lib.decDigits u) = .ok u := by
      unfold Lib.parseMag
      rw [if_neg i3, parse_ok _ 0 i1 (by rw [i2]; omega), i2]
    cases hd : Lib.decDigits u with
    | nil => exact absurd hd i3
    | cons c r =>
      rw [hd] at i1 hp
      have hc : 48 ≤ c.toNat := by rw [List.all_cons, Bool.and_eq_true] at i1; have := i1.1; simp [isDig] at this; omega
      rw [Lib.atoiAll_plain c r (by omega) (by omega), hp]
      unfold Lib.signless
      simp only
      rw [if_neg (by omega)]
theorem wrap_id (n : Int) (h0 : -9223372036854775808 ≤ n) (h1 : n ≤ 9223372036854775807) : wrap64 n = n := by
  unfold wrap64
  omega
theorem num_loop (sign : Int) (l : List UInt8) (hl : l.length ≤ 18) (d : Nat) : ∀ (k i a : Nat), i ≤ l.length → l.length - i = d → d < k → a < 10 ^ i →
    spec_l00Number.l0 k ⟨l.toArray⟩ sign (a : Int) (i : Int) = some (if (l.drop i).all isDig = true then (wrap64 (sign * (dval a (l.drop i) : Int)), true) else (0, false)) := by
  induction d with
  | zero =>
    intro k i a hi hd hk ha
    obtain ⟨k, rfl⟩ : ∃ m, k = m + 1 := ⟨k - 1, by omega⟩
    obtain rfl : i = l.length := by omega
    simp only [spec_l00Number.l0]
    rw [if_neg (by rw [size_mk]; omega), List.drop_length]
    simp [dval]
  | succ d ih =>
    intro k i a hi hd hk ha
    obtain ⟨k, rfl⟩ : ∃ m, k = m + 1 := ⟨k - 1, by omega⟩
    have hlt : i < l.length := by omega
    have hp : 10 ^ i ≤ 100000000000000000 := by have := Nat.pow_le_pow_right (n := 10) (by decide) (show i ≤ 17 by omega); simpa using this
    have ha2 : a < 100000000000000000 := Nat.lt_of_lt_of_le ha hp
    have hps : 10 ^ (i + 1) = 10 ^ i * 10 := Nat.pow_succ ..
    have hb := bt_mk l i hlt
    have hdr := List.drop_eq_getElem_cons hlt
    simp only [spec_l00Number.l0]
    rw [if_pos (by rw [size_mk]; omega), if_pos (by omega), hb, hdr, List.all_cons]
    generalize l[i] = c
    have hc := c.toNat_lt
    by_cases h1 : (c.toNat : Int) < 48
    · rw [if_pos h1, show isDig c = false by simp [isDig]; omega]
      simp
    · rw [if_neg h1]
      by_cases h2 : (c.toNat : Int) > 57
      · rw [if_pos h2, show isDig c = false by simp [isDig]; omega]
        simp
      · rw [if_neg h2, show isDig c = true by simp [isDig]; omega]
        have hx : a * 10 + (c.toNat - 48) < 10 ^ (i + 1) := by rw [hps]; omega
        have ih' := ih k (i + 1) (a * 10 + (c.toNat - 48)) (by omega) (by omega) (by omega) hx
        have e1 : wrap64 ((wrap64 ((wrap64 ((a : Int) * 10)) + (wrap64 (c.toNat : Int)))) - 48) = ((a * 10 + (c.toNat - 48) : Nat) : Int) := by
          clear ih ih' hx hps hp ha hb hdr
          have q0 : (c.toNat : Int) ≤ 57 := by omega
          have q1 : (48 : Int) ≤ (c.toNat : Int) := by omega
          have q2 : (a : Int) < 100000000000000000 := by omega
          rw [wrap_id ((a : Int) * 10) (by omega) (by omega), wrap_id (c.toNat : Int) (by omega) (by omega), wrap_id ((a : Int) * 10 + (c.toNat : Int)) (by omega) (by omega), wrap_id ((a : Int) * 10 + (c.toNat : Int) - 48) (by omega) (by omega)]
          omega
        have e2 : wrap64 ((i : Int) + 1) = ((i + 1 : Nat) : Int) := by clear e1; rw [wrap_id ((i : Int) + 1) (by omega) (by omega)]; omega
        rw [e1, e2, ih', dval_cons, Bool.true_and]
def numM (m : List UInt8) (neg : Bool) : Int × Bool := if m = [] ∨ 18 < m.length ∨ (m.head? = some 48 ∧ (1 < m.length ∨ neg = true)) then (0, false) else if m.all isDig = true then ((if neg = true then -(dval 0 m : Int) else (dval 0 m : Int)), true) else (0, false)
theorem num_j1 (m : List UInt8) (neg : Bool) (k : Nat) (hk : 24 ≤ k) : spec_l00Number.j1 k ⟨m.toArray⟩ (if neg = true then -1 else 1) = some (numM m neg) := by
  obtain ⟨k, rfl⟩ : ∃ q, k = q + 2 := ⟨k - 2, by omega⟩
  simp only [spec_l00Number.j1, spec_l00Number.j2, size_mk, if_true]
  unfold numM
  cases m with
  | nil => simp
  | cons c r =>
    rw [if_neg (by simp <;> omega)]
    by_cases h18 : (((c :: r).length : Nat) : Int) > 18
    · rw [if_pos h18, if_pos (.inr (.inl (by omega)))]
    · rw [if_neg h18, if_pos (by simp <;> omega)]
      have hb := bt_mk (c :: r) 0 (by simp)
      rw [show ((0 : Nat) : Int) = 0 from rfl] at hb
      rw [hb]
      have hl := num_loop (if neg = true then -1 else 1) (c :: r) (by omega) (c :: r).length k 0 0 (by omega) (by omega) (by omega) (by simp)
      rw [show ((0 : Nat) : Int) = 0 from rfl, List.drop_zero] at hl
      have hd : (c :: r).all isDig = true → dval 0 (c :: r) < 1000000000000000000 := fun h => by
        have := dval_lt (c :: r) 0 h
        have hp : 10 ^ (c :: r).length ≤ 1000000000000000000 := by have := Nat.pow_le_pow_right (n := 10) (by decide) (show (c :: r).length ≤ 18 by omega); simpa using this
        omega
      have hw : (c :: r).all isDig = true → wrap64 ((if neg = true then -1 else 1) * (dval 0 (c :: r) : Int)) = (if neg = true then -(dval 0 (c :: r) : Int) else (dval 0 (c :: r) : Int)) := fun h => by
        have := hd h
        cases neg <;> (simp; unfold wrap64; omega)
      have hfin : (if (c :: r).all isDig = true then (wrap64 ((if neg = true then -1 else 1) * (dval 0 (c :: r) : Int)), true) else (0, false)) = (if (c :: r).all isDig = true then ((if neg = true then -(dval 0 (c :: r) : Int) else (dval 0 (c :: r) : Int)), true) else ((0 : Int), false)) := by
        by_cases h : (c :: r).all isDig = true
        · rw [if_pos h, if_pos h, hw h]
        · rw [if_neg h, if_neg h]
      have hc : (((c :: r)[0]'(by simp)).toNat : Int) = 48 ↔ (c :: r).head? = some 48 := by
        simp only [List.getElem_cons_zero, List.head?_cons, Option.some.injEq]
        constructor
        · intro h; apply UInt8.toNat_inj.1; show c.toNat = 48; omega
        · intro h; rw [h]; rfl
      by_cases h48 : (((c :: r)[0]'(by simp)).toNat : Int) = 48
      · rw [if_pos h48]
        by_cases h1 : (((c :: r).length : Nat) : Int) > 1
        · rw [if_pos h1, if_pos (.inr (.inr ⟨hc.1 h48, .inl (by omega)⟩))]
        · rw [if_neg h1]
          cases neg with
          | true => rw [if_pos (show (c :: r) = [] ∨ _ from .inr (.inr ⟨hc.1 h48, .inr rfl⟩))]; simp
          | false =>
            rw [if_neg (show ¬ ((c :: r) = [] ∨ 18 < (c :: r).length ∨ ((c :: r).head? = some 48 ∧ (1 < (c :: r).length ∨ false = true))) from by
              rintro (h | h | ⟨_, h | h⟩)
              · cases h
              · omega
              · omega
              · cases h), ← hfin, ← hl]
            simp
      · rw [if_neg h48, if_neg (show ¬ ((c :: r) = [] ∨ 18 < (c :: r).length ∨ ((c :: r).head? = some 48 ∧ (1 < (c :: r).length ∨ neg = true))) by
          rintro (h | h | ⟨h, _⟩)
          · cases h
          · omega
          · exact h48 (hc.2 h)), ← hfin, ← hl]
        simp
def numR (l : List UInt8) : Int × Bool := match l with
  | [] => (0, false)
  | c :: r => if c = 45 then numM r true else numM (c :: r) false
theorem number_spec (l : List UInt8) (k : Nat) (hk : 25 ≤ k) : spec_l00Number.f k ⟨l.toArray⟩ = some (numR l) := by
  obtain ⟨k, rfl⟩ : ∃ q, k = q + 1 := ⟨k - 1, by omega⟩
  unfold spec_l00Number.f numR
  have h1 := num_j1 l false k (by omega)
  cases l with
  | nil =>
    rw [if_neg (by simp [size_mk])]
    simp only [spec_l00Number.j0]
    rw [if_neg (by simp)]
    rw [if_neg (by simp)] at h1
    rw [h1]
    rfl
  | cons c r =>
    rw [if_pos (by rw [size_mk]; simp <;> omega), if_pos (by rw [size_mk]; simp <;> omega)]
    have hb := bt_mk (c :: r) 0 (by simp)
    rw [show ((0 : Nat) : Int) = 0 from rfl] at hb
    rw [hb]
    simp only [spec_l00Number.j0, List.getElem_cons_zero]
    by_cases hc : c = 45
    · subst hc
      rw [if_pos (by decide), if_pos (by rw [size_mk]; simp <;> omega), if_pos rfl]
      have h2 := num_j1 r true k (by omega)
      rw [if_pos rfl] at h2
      have e := extract_mk (45 :: r) 1
      rw [e]
      exact h2
    · have hn : ((c.toNat : Int) == 45) = false := by
        rw [beq_eq_false_iff_ne]
        intro h
        apply hc
        apply UInt8.toNat_inj.1
        show c.toNat = 45
        omega
      simp only [hn, if_neg hc, Bool.false_eq_true, if_false] at h1 ⊢
      exact h1
theorem numM_bound (m : List UInt8) (neg : Bool) (n : Int) (h : numM m neg = (n, true)) : -1000000000000000000 < n ∧ n < 1000000000000000000 := by
  unfold numM at h
  split at h
  · cases h
  · rename_i h0
    split at h
    · rename_i h1
      have := dval_lt m 0 h1
      have hp : 10 ^ m.length ≤ 1000000000000000000 := by have := Nat.pow_le_pow_right (n := 10) (by decide) (show m.length ≤ 18 by omega); simpa using this
      obtain ⟨rfl, _⟩ := Prod.mk.inj h
      cases neg <;> (simp; omega)
    · cases h
theorem numR_bound (l : List UInt8) (n : Int) (h : numR l = (n, true)) : -1000000000000000000 < n ∧ n < 1000000000000000000 := by
  unfold numR at h
  split at h
  · cases h
  · split at h
    · exact numM_bound _ _ _ h
    · exact numM_bound _ _ _ h
theorem numM_num (m : List UInt8) (neg : Bool) : -9223372036854775808 ≤ (numM m neg).1 ∧ (numM m neg).1 ≤ 9223372036854775807 := by
  rcases h : numM m neg with ⟨n, b⟩
  cases b with
  | true => have := numM_bound m neg n h; show _ ≤ n ∧ n ≤ _; omega
  | false =>
    unfold numM at h
    split at h
    · obtain ⟨rfl, _⟩ := Prod.mk.inj h; decide
    · split at h
      · cases h
      · obtain ⟨rfl, _⟩ := Prod.mk.inj h; decide
theorem numR_num (l : List UInt8) : -9223372036854775808 ≤ (numR l).1 ∧ (numR l).1 ≤ 9223372036854775807 := by
  unfold numR
  split
  · decide
  · split
    · exact numM_num _ _
    · exact numM_num _ _
theorem numR_itoa (v : Int) (h0 : -1000000000000000000 < v) (h1 : v < 1000000000000000000) : numR (Lib.itoa v) = (v, true) := by
  by_cases hv : v < 0
  · obtain ⟨u, rfl⟩ : ∃ u : Nat, v = -(u : Int) := ⟨v.natAbs, by omega⟩
    rw [itoa_of_neg u (by omega)]
    obtain ⟨i1, i2, i3⟩ := dec_dig u u (Nat.le_refl u)
    obtain ⟨c, l, e, hc⟩ := dec_head u u (Nat.le_refl u) (by omega)
    have hlen := dec_len 17 u (by omega)
    unfold numR numM
    simp only [if_true]
    rw [if_neg, if_pos i1, i2]
    rintro (h | h | ⟨h, _⟩)
    · exact i3 h
    · omega
    · rw [e] at h
      simp at h
      exact hc (by rw [h]; rfl)
  · obtain ⟨u, rfl⟩ : ∃ u : Nat, v = (u : Int) := ⟨v.toNat, by omega⟩
    rw [itoa_of_nat u]
    obtain ⟨i1, i2, i3⟩ := dec_dig u u (Nat.le_refl u)
    have hlen := dec_len 17 u (by omega)
    have hm : numM (Lib.decDigits u) false = ((u : Int), true) := by
      unfold numM
      rw [if_neg, if_pos i1, i2]
      · simp
      · rintro (h | h | ⟨h, h2⟩)
        · exact i3 h
        · omega
        · by_cases hu : u < 10
          · rw [Lib.decDigits_one hu] at h2; simp at h2
          · obtain ⟨c, l, e, hc⟩ := dec_head u u (Nat.le_refl u) (by omega)
            rw [e] at h
            simp at h
            exact hc (by rw [h]; rfl)
    unfold numR
    cases hd : Lib.decDigits u with
    | nil => exact absurd hd i3
    | cons c r =>
      rw [hd] at i1 hm
      have hc : 48 ≤ c.toNat := by rw [List.all_cons, Bool.and_eq_true] at i1; have := i1.1; simp [isDig] at this; omega
      simp only
      rw [if_neg (by intro h; rw [h] at hc; revert hc; decide)]
      exact hm
def isNum (s : ByteArray) (v : Int) : Prop := -1000000000000000000 < v ∧ v < 1000000000000000000 ∧ s = ⟨(Lib.itoa v).toArray⟩
theorem num_spec (s : ByteArray) (k : Nat) (hk : 25 ≤ k) : ∃ n b, spec_l02Number.f k s = some (n, b) ∧ (b = true → isNum s n) ∧ ∀ v, isNum s v → b = true ∧ n = v := by
  unfold spec_l02Number.f
  have hs := number_spec s.data.toList k hk
  rw [mk_data] at hs
  rw [hs]
  simp only [Option.bind_some]
  rcases hr : numR s.data.toList with ⟨n, b⟩
  have hn := numR_num s.data.toList
  rw [hr] at hn
  cases b with
  | false =>
    refine ⟨n, false, by simp, by simp, fun v hv => ?_⟩
    obtain ⟨v0, v1, hv⟩ := hv
    subst hv
    have : (⟨(Lib.itoa v).toArray⟩ : ByteArray).data.toList = Lib.itoa v := rfl
    rw [this, numR_itoa v v0 v1] at hr
    cases hr
  | true =>
    have hb := numR_bound _ _ hr
    simp only [if_true]
    rw [digits_eq n hn.1 hn.2 k (by omega)]
    simp only [Option.bind_some]
    refine ⟨n, _, rfl, fun h => ⟨hb.1, hb.2, ?_⟩, fun v hv => ?_⟩
    · have h := beq_iff_eq.1 h
      rw [ByteArray.toList_eq, ByteArray.toList_eq] at h
      have : (⟨(Lib.itoa n).toArray⟩ : ByteArray).data.toList = s.data.toList := h
      rw [← mk_data s, ← this]
    · obtain ⟨v0, v1, hv⟩ := hv
      subst hv
      have : (⟨(Lib.itoa v).toArray⟩ : ByteArray).data.toList = Lib.itoa v := rfl
      rw [this, numR_itoa v v0 v1] at hr
      obtain ⟨rfl, _⟩ := Prod.mk.inj hr
      exact ⟨by simp, rfl⟩
theorem num_impl (s : ByteArray) (hs : s.size ≤ 1048576) : ∃ n b, impl_number.f s = some (n, b) ∧ (b = true → isNum s n) ∧ ∀ v, isNum s v → b = true ∧ n = v := by
  unfold impl_number.f
  rw [if_pos (by omega)]
  rcases hr : numB s with ⟨n, b⟩
  refine ⟨n, b, rfl, fun h => ?_, fun v hv => ?_⟩
  · subst h
    unfold numB at hr
    split at hr
    · obtain ⟨rfl, h2⟩ := Prod.mk.inj hr
      simp only [Bool.and_eq_true, decide_eq_true_eq] at h2
      obtain ⟨h3, h4, h5⟩ := h2
      refine ⟨by omega, by omega, ?_⟩
      have h := beq_iff_eq.1 h3
      rw [ByteArray.toList_eq, ByteArray.toList_eq] at h
      unfold strI at h
      rw [← mk_data s, ← h]
    · cases hr
    · cases hr
  · obtain ⟨v0, v1, hv⟩ := hv
    subst hv
    unfold numB at hr
    have e : (⟨(Lib.itoa v).toArray⟩ : ByteArray).data.toList = Lib.itoa v := rfl
    rw [e, atoi_itoa v v0 v1] at hr
    obtain ⟨rfl, h2⟩ := Prod.mk.inj hr
    subst h2
    refine ⟨?_, rfl⟩
    simp only [strI, Bool.and_eq_true, decide_eq_true_eq]
    exact ⟨by simp, by omega, by omega⟩
theorem num_same (s : ByteArray) (hs : s.size ≤ 1048576) (k : Nat) (hk : 25 ≤ k) : ∃ n m b, spec_l02Number.f k s = some (n, b) ∧ impl_number.f s = some (m, b) ∧ (b = true → n = m) := by
  obtain ⟨n, b, h1, h2, h3⟩ := num_spec s k hk
  obtain ⟨m, c, g1, g2, g3⟩ := num_impl s hs
  cases b with
  | true =>
    obtain ⟨hc, hm⟩ := g3 n (h2 rfl)
    subst hc
    exact ⟨n, m, true, h1, g1, fun _ => hm.symm⟩
  | false =>
    cases c with
    | false => exact ⟨n, m, false, h1, g1, by simp⟩
    | true => have := (h3 m (g2 rfl)).1; cases this
def pieces (c : UInt8) : List UInt8 → List (List UInt8)
  | [] => [[]]
  | b :: l => if b = c then [] :: pieces c l else match pieces c l with
    | p :: ps => (b :: p) :: ps
    | [] => [[b]]
theorem pieces_ne (c : UInt8) : ∀ l, pieces c l ≠ []
  | [] => by simp [pieces]
  | b :: l => by
    unfold pieces
    split
    · simp
    · split <;> simp
theorem pieces_len (c : UInt8) : ∀ l, (pieces c l).length ≤ l.length + 1
  | [] => by simp [pieces]
  | b :: l => by
    have ih := pieces_len c l
    unfold pieces
    split
    · simp only [List.length_cons]; omega
    · split
      · rename_i p ps h; rw [h] at ih; simp only [List.length_cons] at ih ⊢; omega
      · simp
theorem pieces_bytes (c : UInt8) : ∀ l, ∀ p ∈ pieces c l, p.length ≤ l.length
  | [], p, hp => by simp [pieces] at hp; simp [hp]
  | b :: l, p, hp => by
    have ih := pieces_bytes c l
    unfold pieces at hp
    split at hp
    · rcases List.mem_cons.1 hp with rfl | hp
      · simp
      · have := ih p hp; simp only [List.length_cons]; omega
    · split at hp
      · rename_i q qs h
        rw [h] at ih
        rcases List.mem_cons.1 hp with rfl | hp
        · have := ih q (by simp); simp only [List.length_cons]; omega
        · have := ih p (by simp [hp]); simp only [List.length_cons]; omega
      · simp at hp; subst hp; simp
theorem pieces_app (c : UInt8) (b : List UInt8) : ∀ a, c ∉ a → pieces c (a ++ c :: b) = a :: pieces c b
  | [], _ => by simp [pieces]
  | x :: a, h => by
    have hx : ¬ x = c := fun e => h (by simp [e])
    have ih := pieces_app c b a (fun e => h (by simp [e]))
    show pieces c (x :: (a ++ c :: b)) = _
    rw [pieces, if_neg hx, ih]
theorem pieces_none (c : UInt8) : ∀ a, c ∉ a → pieces c a = [a]
  | [], _ => rfl
  | x :: a, h => by
    have hx : ¬ x = c := fun e => h (by simp [e])
    have ih := pieces_none c a (fun e => h (by simp [e]))
    rw [pieces, if_neg hx, ih]
theorem index_one (c : UInt8) : ∀ l, (Lib.index l [c] = -1 ∧ c ∉ l) ∨ (∃ i : Nat, Lib.index l [c] = i ∧ i < l.length ∧ c ∉ l.take i ∧ l = l.take i ++ c :: l.drop (i + 1))
  | [] => .inl ⟨rfl, by simp⟩
  | b :: l => by
    unfold Lib.index
    by_cases hb : b = c
    · subst hb
      refine .inr ⟨0, ?_, by simp, by simp, by simp⟩
      rw [if_pos (by simp)]
      rfl
    · rw [if_neg (by simp [List.isPrefixOf]; exact fun e => hb e.symm)]
      rcases index_one c l with ⟨h1, h2⟩ | ⟨i, h1, h2, h3, h4⟩
      · refine .inl ⟨by rw [h1]; rfl, ?_⟩
        rintro h
        rcases List.mem_cons.1 h with e | h
        · exact hb e.symm
        · exact h2 h
      · refine .inr ⟨i + 1, ?_, by simp only [List.length_cons]; omega, ?_, ?_⟩
        · rw [h1, if_neg (by rw [beq_iff_eq]; omega)]
          rfl
        · rw [List.take_succ_cons]
          rintro h
          rcases List.mem_cons.1 h with e | h
          · exact hb e.symm
          · exact h3 h
        · rw [List.take_succ_cons, List.drop_succ_cons, List.cons_append, ← h4]
theorem extract_take (l : List UInt8) (i : Nat) : (⟨l.toArray⟩ : ByteArray).extract 0 i = ⟨(l.take i).toArray⟩ := by
  apply ByteArray.ext
  rw [ByteArray.data_extract]
  simp [List.extract]
theorem splitB_pieces (c : UInt8) : ∀ (m : Nat) (l : List UInt8),
    ((pieces c l).length ≤ m + 1 → Lib.splitB ⟨#[c]⟩ 0 m ⟨l.toArray⟩ = (pieces c l).map fun p => (⟨p.toArray⟩ : ByteArray)) ∧ (m + 1 < (pieces c l).length → (Lib.splitB ⟨#[c]⟩ 0 m ⟨l.toArray⟩).length = m + 1)
  | 0, l => by
    refine ⟨fun h => ?_, fun _ => rfl⟩
    rcases index_one c l with ⟨h1, h2⟩ | ⟨i, h1, h2, h3, h4⟩
    · rw [pieces_none c l h2]; rfl
    · rw [h4, pieces_app c _ _ h3] at h
      have := pieces_ne c (l.drop (i + 1))
      have : 0 < (pieces c (l.drop (i + 1))).length := List.length_pos_iff.2 this
      simp only [List.length_cons] at h
      omega
  | m + 1, l => by
    have hB : Lib.indexB (⟨l.toArray⟩ : ByteArray) ⟨#[c]⟩ = Lib.index l [c] := rfl
    rcases index_one c l with ⟨h1, h2⟩ | ⟨i, h1, h2, h3, h4⟩
    · rw [Lib.splitB_miss _ _ _ _ (by rw [hB, h1]), pieces_none c l h2]
      exact ⟨fun _ => rfl, fun h => by simp at h⟩
    · rw [Lib.splitB_hit _ _ _ _ i (by rw [hB, h1])]
      have ih := splitB_pieces c m (l.drop (i + 1))
      have e1 : (⟨l.toArray⟩ : ByteArray).extract 0 (i + 0) = ⟨(l.take i).toArray⟩ := extract_take l i
      have e2 : (⟨l.toArray⟩ : ByteArray).extract (i + (⟨#[c]⟩ : ByteArray).size) (⟨l.toArray⟩ : ByteArray).size = ⟨(l.drop (i + 1)).toArray⟩ := extract_mk l (i + 1)
      rw [e1, e2]
      have hp : pieces c l = l.take i :: pieces c (l.drop (i + 1)) := by
        conv => lhs; rw [h4]
        exact pieces_app c _ _ h3
      rw [hp]
      simp only [List.length_cons, List.map_cons]
      refine ⟨fun h => ?_, fun h => ?_⟩
      · rw [ih.1 (by omega)]
      · rw [ih.2 (by omega)]
theorem splitB_size (c : UInt8) : ∀ (m : Nat) (l : List UInt8), ∀ p ∈ Lib.splitB ⟨#[c]⟩ 0 m ⟨l.toArray⟩, p.size ≤ l.length
  | 0, l, p, hp => by
    rw [Lib.splitB_zero] at hp
    rw [List.mem_singleton.1 hp, size_mk]
    exact Nat.le_refl _
  | m + 1, l, p, hp => by
    have hB : Lib.indexB (⟨l.toArray⟩ : ByteArray) ⟨#[c]⟩ = Lib.index l [c] := rfl
    rcases index_one c l with ⟨h1, h2⟩ | ⟨i, h1, h2, h3, h4⟩
    · rw [Lib.splitB_miss _ _ _ _ (by rw [hB, h1])] at hp
      rw [List.mem_singleton.1 hp, size_mk]
      exact Nat.le_refl _
    · rw [Lib.splitB_hit _ _ _ _ i (by rw [hB, h1])] at hp
      have e1 : (⟨l.toArray⟩ : ByteArray).extract 0 (i + 0) = ⟨(l.take i).toArray⟩ := extract_take l i
      have e2 : (⟨l.toArray⟩ : ByteArray).extract (i + (⟨#[c]⟩ : ByteArray).size) (⟨l.toArray⟩ : ByteArray).size = ⟨(l.drop (i + 1)).toArray⟩ := extract_mk l (i + 1)
      rw [e1, e2] at hp
      rcases List.mem_cons.1 hp with rfl | hp
      · rw [size_mk, List.length_take]; omega
      · have := splitB_size c m _ p hp
        rw [List.length_drop] at this
        omega
def mkP (l : List (List UInt8)) : List ByteArray := l.map fun p => (⟨p.toArray⟩ : ByteArray)
def joinH (p : List UInt8) : List (List UInt8) → List (List UInt8)
  | q :: qs => (p ++ q) :: qs
  | [] => [p]
theorem extract_mid (l : List UInt8) (i j : Nat) : (⟨l.toArray⟩ : ByteArray).extract i j = ⟨((l.drop i).take (j - i)).toArray⟩ := by
  apply ByteArray.ext
  rw [ByteArray.data_extract]
  simp [List.extract, List.take_drop]
theorem cut_loop (c : UInt8) (l : List UInt8) (hl : l.length ≤ 1048576) (d : Nat) : ∀ (k i f : Nat) (out : List ByteArray), i ≤ l.length → f ≤ i → out.length ≤ i → l.length - i = d → d < k →
    spec_l00Cut.l0 k ⟨l.toArray⟩ ((c.toNat : Nat) : Int) out (f : Int) (i : Int) = some (out ++ mkP (joinH ((l.drop f).take (i - f)) (pieces c (l.drop i)))) := by
  induction d with
  | zero =>
    intro k i f out hi hf ho hd hk
    obtain ⟨k, rfl⟩ : ∃ m, k = m + 1 := ⟨k - 1, by omega⟩
    obtain rfl : i = l.length := by omega
    simp only [spec_l00Cut.l0]
    rw [if_neg (by rw [size_mk]; omega), if_pos (by omega), if_pos (by rw [size_mk]; omega), if_pos (by omega), List.drop_length, Int.toNat_natCast, extract_mk]
    simp [pieces, joinH, mkP, List.take_of_length_le]
  | succ d ih =>
    intro k i f out hi hf ho hd hk
    obtain ⟨k, rfl⟩ : ∃ m, k = m + 1 := ⟨k - 1, by omega⟩
    have hlt : i < l.length := by omega
    have hb := bt_mk l i hlt
    have hdr := List.drop_eq_getElem_cons hlt
    have hw : wrap64 ((i : Int) + 1) = ((i + 1 : Nat) : Int) := by unfold wrap64; omega
    simp only [spec_l00Cut.l0]
    rw [if_pos (by rw [size_mk]; omega), if_pos (by omega), hb, hdr, hw]
    by_cases hc : l[i] = c
    · rw [if_pos (by rw [hc]), if_pos (by omega), if_pos (by omega), if_pos (by rw [size_mk]; omega), if_pos (by omega), Int.toNat_natCast, Int.toNat_natCast, extract_mid,
        ih k (i + 1) (i + 1) _ (by omega) (by omega) (by rw [List.length_append, List.length_singleton]; omega) (by omega) (by omega)]
      rw [pieces, if_pos hc, Nat.sub_self, List.take_zero]
      cases hp : pieces c (l.drop (i + 1)) with
      | nil => exact absurd hp (pieces_ne c _)
      | cons p ps => simp [joinH, mkP]
    · have hn : ¬ ((l[i].toNat : Nat) : Int) = ((c.toNat : Nat) : Int) := fun e => hc (UInt8.toNat_inj.1 (by omega))
      rw [if_neg hn, ih k (i + 1) f out (by omega) (by omega) (by omega) (by omega) (by omega)]
      rw [pieces, if_neg hc]
      have ht : (l.drop f).take (i + 1 - f) = (l.drop f).take (i - f) ++ [l[i]] := by
        rw [show i + 1 - f = (i - f) + 1 by omega, List.take_succ_eq_append_getElem (by rw [List.length_drop]; omega)]
        congr 2
        rw [List.getElem_drop]
        congr 1
        omega
      rw [ht]
      cases hp : pieces c (l.drop (i + 1)) with
      | nil => exact absurd hp (pieces_ne c _)
      | cons p ps => simp [joinH, mkP]
theorem cut_eq (s : ByteArray) (c : UInt8) (hs : s.size ≤ 1048576) (k : Nat) (hk : s.size < k) : spec_l00Cut.f k s ((c.toNat : Nat) : Int) = some (mkP (pieces c s.data.toList)) := by
  unfold spec_l00Cut.f
  have hsz : s.size = s.data.toList.length := by rw [Array.length_toList]; rfl
  have h := cut_loop c s.data.toList (by omega) s.data.toList.length k 0 0 [] (by omega) (by omega) (by simp) (by omega) (by omega)
  rw [mk_data] at h
  rw [show ((0 : Nat) : Int) = 0 from rfl] at h
  rw [h, List.drop_zero, Nat.sub_self, List.take_zero]
  cases hp : pieces c s.data.toList with
  | nil => exact absurd hp (pieces_ne c _)
  | cons p ps => simp [joinH]
theorem splitN_eq (s : ByteArray) (c : UInt8) (n : Nat) (hn : 1 ≤ n) (hs : s.size ≤ 1048576) (hn2 : n ≤ 4096) : ∃ L, strings_SplitN.f s ⟨#[c]⟩ ((n + 1 : Nat) : Int) = some L ∧ (L.length = n ↔ (pieces c s.data.toList).length = n) ∧ (L.length = n → L = mkP (pieces c s.data.toList)) ∧ L.length ≤ n + 1 ∧ ((pieces c s.data.toList).length ≤ n + 1 → L = mkP (pieces c s.data.toList)) ∧ (n + 1 < (pieces c s.data.toList).length → L.length = n + 1) ∧ ∀ p ∈ L, p.size ≤ s.size := by
  unfold strings_SplitN.f
  rw [if_pos ⟨by omega, Nat.le_refl 1, by omega, by omega⟩]
  refine ⟨_, rfl, ?_⟩
  unfold splitB
  rw [Int.toNat_natCast]
  have hsz : s.size = s.data.toList.length := by rw [Array.length_toList]; rfl
  have hpl := pieces_len c s.data.toList
  have h := splitB_pieces c (min (n + 1) (s.size + 1) - 1) s.data.toList
  have hz := splitB_size c (min (n + 1) (s.size + 1) - 1) s.data.toList
  rw [mk_data] at h hz
  rw [← hsz] at hz
  by_cases hle : (pieces c s.data.toList).length ≤ min (n + 1) (s.size + 1) - 1 + 1
  · have h1 := h.1 hle
    rw [h1] at hz ⊢
    exact ⟨by rw [List.length_map], fun _ => rfl, by rw [List.length_map]; omega, fun _ => rfl, fun e => by rw [List.length_map]; omega, hz⟩
  · have h2 := h.2 (by omega)
    rw [h2]
    exact ⟨by omega, fun e => by omega, by omega, fun e => by omega, fun e => by omega, hz⟩
theorem rdOf_at (L : List ByteArray) (i : Nat) (h : i < L.length) : rdOf ByteArray.empty L (i : Int) = L[i] := by
  unfold rdOf
  rw [Int.toNat_natCast, List.getD_eq_getElem?_getD, List.getElem?_eq_getElem h]
  rfl
theorem numbers_loops (L : List ByteArray) (n : Int) (hL : L.length ≤ 4097) (hs : ∀ p ∈ L, p.size ≤ 1048576) (d : Nat) : ∀ (k i : Nat) (out : List Int), i ≤ L.length → out.length ≤ i → L.length - i = d → d + 30 < k →
    (spec_l02Numbers.l0 k n L out (i : Int) = some ([], false) ∧ impl_numbers.l0 k out L (L.length : Int) (i : Int) = some ([], false)) ∨
    ∃ vs : List Int, vs.length = L.length - i ∧ spec_l02Numbers.l0 k n L out (i : Int) = some (out ++ vs, (((out ++ vs).length : Int) == n)) ∧ impl_numbers.l0 k out L (L.length : Int) (i : Int) = some (out ++ vs, true) := by
  induction d with
  | zero =>
    intro k i out hi ho hd hk
    obtain ⟨k, rfl⟩ : ∃ m, k = m + 1 := ⟨k - 1, by omega⟩
    obtain rfl : i = L.length := by omega
    refine .inr ⟨[], by simp, ?_, ?_⟩
    · simp only [spec_l02Numbers.l0]
      rw [if_neg (by omega), List.append_nil]
    · simp only [impl_numbers.l0]
      rw [if_neg (by omega), List.append_nil]
  | succ d ih =>
    intro k i out hi ho hd hk
    obtain ⟨k, rfl⟩ : ∃ m, k = m + 1 := ⟨k - 1, by omega⟩
    have hlt : i < L.length := by omega
    have hw : wrap64 ((i : Int) + 1) = ((i + 1 : Nat) : Int) := by unfold wrap64; omega
    obtain ⟨v, v2, b, h1, h2, h3⟩ := num_same L[i] (hs _ (List.getElem_mem hlt)) k (by omega)
    simp only [spec_l02Numbers.l0, impl_numbers.l0]
    rw [if_pos (by omega), if_pos (by omega), if_pos (by omega), if_pos (by omega), if_pos (by omega), rdOf_at L i hlt, h1, h2]
    simp only [Option.bind_some]
    cases b with
    | false => exact .inl ⟨by simp, by simp⟩
    | true =>
      obtain rfl := h3 rfl
      simp only [if_true]
      rw [if_pos (by omega), if_pos (by omega), hw]
      rcases ih k (i + 1) (out ++ [v]) (by omega) (by rw [List.length_append, List.length_singleton]; omega) (by omega) (by omega) with h | ⟨vs, h4, h5, h6⟩
      · exact .inl h
      · refine .inr ⟨v :: vs, by simp; omega, ?_, ?_⟩
        · rw [h5]; simp
        · rw [h6]; simp
theorem spec_numbers_total (L : List ByteArray) (n : Int) (hs : ∀ p ∈ L, p.size ≤ 1048576) (hL : L.length ≤ 1048577) (d : Nat) : ∀ (k i : Nat) (out : List Int), i ≤ L.length → out.length ≤ i → L.length - i = d → d + 30 < k →
    ∃ r b, spec_l02Numbers.l0 k n L out (i : Int) = some (r, b) ∧ (b = true → ((out.length + (L.length - i) : Nat) : Int) = n) := by
  induction d with
  | zero =>
    intro k i out hi ho hd hk
    obtain ⟨k, rfl⟩ : ∃ m, k = m + 1 := ⟨k - 1, by omega⟩
    obtain rfl : i = L.length := by omega
    simp only [spec_l02Numbers.l0]
    rw [if_neg (by omega)]
    exact ⟨_, _, rfl, fun h => by have := beq_iff_eq.1 h; omega⟩
  | succ d ih =>
    intro k i out hi ho hd hk
    obtain ⟨k, rfl⟩ : ∃ m, k = m + 1 := ⟨k - 1, by omega⟩
    have hlt : i < L.length := by omega
    have hw : wrap64 ((i : Int) + 1) = ((i + 1 : Nat) : Int) := by unfold wrap64; omega
    obtain ⟨v, b, h1, _, _⟩ := num_spec L[i] k (by omega)
    simp only [spec_l02Numbers.l0]
    rw [if_pos (by omega), if_pos (by omega), rdOf_at L i hlt, h1]
    simp only [Option.bind_some]
    cases b with
    | false => exact ⟨[], false, by simp, by simp⟩
    | true =>
      simp only [if_true]
      rw [if_pos (by omega), hw]
      obtain ⟨r, b, h2, h3⟩ := ih k (i + 1) (out ++ [v]) (by omega) (by rw [List.length_append, List.length_singleton]; omega) (by omega) (by omega)
      exact ⟨r, b, h2, fun h => by have := h3 h; rw [List.length_append, List.length_singleton] at this; omega⟩
theorem numbers_same (s : ByteArray) (c : UInt8) (n : Nat) (hn : 1 ≤ n) (hn2 : n ≤ 4096) (hs : s.size ≤ 1048576) (k : Nat) (hk : s.size + 40 < k) :
    ∃ r r' b, spec_l02Numbers.f k s ((c.toNat : Nat) : Int) (n : Int) = some (r, b) ∧ impl_numbers.f k s ⟨#[c]⟩ (n : Int) = some (r', b) ∧ (b = true → r = r' ∧ r.length = n) := by
  unfold spec_l02Numbers.f impl_numbers.f
  have hsz : s.size = s.data.toList.length := by rw [Array.length_toList]; rfl
  have hpl := pieces_len c s.data.toList
  obtain ⟨L, e1, e2, e3, e4, _⟩ := splitN_eq s c n hn hs hn2
  have hw : wrap64 ((n : Int) + 1) = ((n + 1 : Nat) : Int) := by unfold wrap64; omega
  rw [cut_eq s c hs k (by omega), hw, e1]
  simp only [Option.bind_some]
  have hbytes : ∀ p ∈ mkP (pieces c s.data.toList), p.size ≤ 1048576 := fun p hp => by
    obtain ⟨q, hq, rfl⟩ := List.mem_map.1 hp
    have := pieces_bytes c _ q hq
    rw [size_mk]
    omega
  by_cases hlen : (pieces c s.data.toList).length = n
  · have hL := e3 (e2.2 hlen)
    subst hL
    have hl2 : (mkP (pieces c s.data.toList)).length = n := by unfold mkP; rw [List.length_map]; exact hlen
    rw [if_pos (by rw [hl2])]
    rcases numbers_loops (mkP (pieces c s.data.toList)) n (by omega) hbytes n k 0 [] (by omega) (by simp) (by omega) (by omega) with ⟨h1, h2⟩ | ⟨vs, h1, h2, h3⟩
    · exact ⟨[], [], false, h1, h2, by simp⟩
    · refine ⟨vs, vs, true, ?_, h3, fun _ => ⟨rfl, by omega⟩⟩
      rw [show ((0 : Nat) : Int) = 0 from rfl] at h2
      rw [h2, List.nil_append]
      have : ((vs.length : Int) == (n : Int)) = true := by rw [beq_iff_eq]; omega
      rw [this]
  · rw [if_neg (by intro h; exact hlen (e2.1 (by omega)))]
    have hl2 : (mkP (pieces c s.data.toList)).length = (pieces c s.data.toList).length := by unfold mkP; rw [List.length_map]
    obtain ⟨r, b, h⟩ := spec_numbers_total (mkP (pieces c s.data.toList)) n hbytes (by omega) (mkP (pieces c s.data.toList)).length k 0 [] (by omega) (by simp) (by omega) (by omega)
    rw [show ((0 : Nat) : Int) = 0 from rfl] at h
    refine ⟨r, [], false, ?_, rfl, by simp⟩
    rw [h.1]
    have : b = false := by
      cases b with
      | false => rfl
      | true =>
        have := h.2 rfl
        simp only [List.length_nil, Nat.sub_zero] at this
        omega
    rw [this]
theorem itoa_bytes (v : Int) (x : UInt8) (h : x ∈ Lib.itoa v) : isDig x = true ∨ x = 45 := by
  unfold Lib.itoa at h
  have hd : ∀ u, x ∈ Lib.decDigits u → isDig x = true := fun u hu => List.all_eq_true.1 (dec_dig u u (Nat.le_refl u)).1 x hu
  split at h
  · rcases List.mem_cons.1 h with rfl | h
    · exact .inr rfl
    · exact .inl (hd _ h)
  · exact .inl (hd _ h)
theorem pieces_mem (c : UInt8) : ∀ l, ∀ x ∈ l, x = c ∨ ∃ p ∈ pieces c l, x ∈ p
  | [], x, h => by cases h
  | b :: l, x, h => by
    unfold pieces
    by_cases hb : b = c
    · rw [if_pos hb]
      rcases List.mem_cons.1 h with rfl | h
      · exact .inl hb
      · rcases pieces_mem c l x h with h | ⟨p, hp, hx⟩
        · exact .inl h
        · exact .inr ⟨p, List.mem_cons_of_mem _ hp, hx⟩
    · rw [if_neg hb]
      cases hp : pieces c l with
      | nil => exact absurd hp (pieces_ne c l)
      | cons q qs =>
        rcases List.mem_cons.1 h with rfl | h
        · exact .inr ⟨_, List.mem_cons_self, List.mem_cons_self⟩
        · rcases pieces_mem c l x h with h | ⟨p, hp2, hx⟩
          · exact .inl h
          · rw [hp] at hp2
            rcases List.mem_cons.1 hp2 with rfl | hp2
            · exact .inr ⟨_, List.mem_cons_self, List.mem_cons_of_mem _ hx⟩
            · exact .inr ⟨p, List.mem_cons_of_mem _ hp2, hx⟩
theorem spec_numbers_all (L : List ByteArray) (n : Int) (hL : L.length ≤ 1048577) (d : Nat) : ∀ (k i : Nat) (out r : List Int), i ≤ L.length → L.length - i = d → d + 30 < k →
    spec_l02Numbers.l0 k n L out (i : Int) = some (r, true) → ∀ p ∈ L.drop i, ∃ v, isNum p v := by
  induction d with
  | zero =>
    intro k i out r hi hd hk _ p hp
    rw [List.drop_of_length_le (by omega)] at hp
    cases hp
  | succ d ih =>
    intro k i out r hi hd hk h p hp
    obtain ⟨k, rfl⟩ : ∃ m, k = m + 1 := ⟨k - 1, by omega⟩
    have hlt : i < L.length := by omega
    have hw : wrap64 ((i : Int) + 1) = ((i + 1 : Nat) : Int) := by unfold wrap64; omega
    obtain ⟨v, b, h1, h2, _⟩ := num_spec L[i] k (by omega)
    simp only [spec_l02Numbers.l0] at h
    rw [if_pos (by omega), if_pos (by omega), rdOf_at L i hlt, h1] at h
    simp only [Option.bind_some] at h
    cases b with
    | false => simp at h
    | true =>
      simp only [if_true] at h
      split at h
      · rw [hw] at h
        rw [List.drop_eq_getElem_cons hlt] at hp
        rcases List.mem_cons.1 hp with rfl | hp
        · exact ⟨v, h2 rfl⟩
        · exact ih k (i + 1) _ r (by omega) (by omega) (by omega) h p hp
      · cases h
theorem spec_numbers_bytes (s : ByteArray) (c : UInt8) (n : Int) (hs : s.size ≤ 1048576) (k : Nat) (hk : s.size + 40 < k) (r : List Int) (h : spec_l02Numbers.f k s ((c.toNat : Nat) : Int) n = some (r, true)) :
    ∀ x ∈ s.data.toList, x = c ∨ isDig x = true ∨ x = 45 := by
  unfold spec_l02Numbers.f at h
  have hsz : s.size = s.data.toList.length := by rw [Array.length_toList]; rfl
  have hpl := pieces_len c s.data.toList
  have hl2 : (mkP (pieces c s.data.toList)).length = (pieces c s.data.toList).length := by unfold mkP; rw [List.length_map]
  rw [cut_eq s c hs k (by omega)] at h
  simp only [Option.bind_some] at h
  have ha := spec_numbers_all (mkP (pieces c s.data.toList)) n (by omega) _ k 0 [] r (by omega) rfl (by omega) h
  intro x hx
  rcases pieces_mem c _ x hx with h | ⟨p, hp, hx⟩
  · exact .inl h
  · obtain ⟨v, _, _, hv⟩ := ha ⟨p.toArray⟩ (by rw [List.drop_zero]; exact List.mem_map.2 ⟨p, hp, rfl⟩)
    have : p = Lib.itoa v := by
      have := congrArg (fun b : ByteArray => b.data.toList) hv
      simpa using this
    rw [this] at hx
    exact .inr (itoa_bytes v x hx)
theorem readagg_same (s : ByteArray) (hs : s.size ≤ 1048576) (k : Nat) (hk : s.size + 40 < k) :
    ∃ r r' : Int × Int × Int × Int × Int × Int, ∃ b : Bool, spec_l02Read.f k s = some (r.1, r.2.1, r.2.2.1, r.2.2.2.1, r.2.2.2.2.1, r.2.2.2.2.2, b) ∧ impl_readAgg.f k s = some (r'.1, r'.2.1, r'.2.2.1, r'.2.2.2.1, r'.2.2.2.2.1, r'.2.2.2.2.2, b) ∧ (b = true → r = r') ∧ (b = true → aggB r.1 r.2.1 r.2.2.1 r.2.2.2.1 r.2.2.2.2.1 r.2.2.2.2.2 = true) := by
  unfold spec_l02Read.f impl_readAgg.f
  obtain ⟨r, r', b, h1, h2, h3⟩ := numbers_same s 44 6 (by omega) (by omega) hs k hk
  have e1 : (((44 : UInt8).toNat : Nat) : Int) = 44 := rfl
  have e2 : ((6 : Nat) : Int) = 6 := rfl
  rw [e1, e2] at h1
  rw [e2] at h2
  rw [h1, h2]
  simp only [Option.bind_some]
  cases b with
  | false => exact ⟨(0, 0, 0, 0, 0, 0), (0, 0, 0, 0, 0, 0), false, by simp, by simp, by simp, by simp⟩
  | true =>
    obtain ⟨rfl, hlen⟩ := h3 rfl
    have hl : (r.length : Int) = 6 := by omega
    simp only [if_true, hl]
    rw [if_pos (by decide), if_pos (by decide), if_pos (by decide), if_pos (by decide), if_pos (by decide), if_pos (by decide), spec_agg, impl_agg]
    simp only [Option.bind_some]
    cases hq : aggB (rd r 0) (rd r 1) (rd r 2) (rd r 3) (rd r 4) (rd r 5) with
    | false => exact ⟨(0, 0, 0, 0, 0, 0), (rd r 0, rd r 1, rd r 2, rd r 3, rd r 4, rd r 5), false, by simp, by simp, by simp, by simp⟩
    | true => exact ⟨(rd r 0, rd r 1, rd r 2, rd r 3, rd r 4, rd r 5), (rd r 0, rd r 1, rd r 2, rd r 3, rd r 4, rd r 5), true, by simp, by simp, by simp, fun _ => hq⟩
theorem cutB_none (c : UInt8) (l : List UInt8) (h : c ∉ l) : Lib.cut l [c] = (l, [], false) := by
  unfold Lib.cut
  rcases index_one c l with ⟨h1, _⟩ | ⟨i, h1, h2, h3, h4⟩
  · rw [h1, if_neg (by decide)]
  · exact absurd (by rw [h4]; simp) h
theorem cutB_some (c : UInt8) (a b : List UInt8) (h : c ∉ a) : Lib.cut (a ++ c :: b) [c] = (a, b, true) := by
  unfold Lib.cut
  rcases index_one c (a ++ c :: b) with ⟨_, h2⟩ | ⟨i, h1, h2, h3, h4⟩
  · exact absurd (by simp) h2
  · have hi : i = a.length := by
      rcases Nat.lt_trichotomy i a.length with hlt | heq | hgt
      · exfalso
        apply h
        have : (a ++ c :: b)[i]? = some c := by
          rw [h4, List.getElem?_append_right (by rw [List.length_take]; omega)]
          have : i - (List.take i (a ++ c :: b)).length = 0 := by rw [List.length_take]; omega
          rw [this]; rfl
        rw [List.getElem?_append_left hlt] at this
        exact List.mem_of_getElem? this
      · exact heq
      · exfalso
        apply h3
        rw [List.take_append]
        exact List.mem_append_right _ (by
          have : i - a.length = (i - a.length - 1) + 1 := by omega
          rw [this, List.take_succ_cons]
          exact List.mem_cons_self)
    subst hi
    rw [h1, if_pos (by omega), Int.toNat_natCast, List.take_left' rfl]
    simp [List.drop_append]
theorem samples_loops (L : List ByteArray) (B : Nat) (hB : B ≤ 1048576) (hL : L.length ≤ 9) (hs : ∀ p ∈ L, p.size ≤ B) (d : Nat) : ∀ (k i : Nat) (out : List S49), i ≤ L.length → out.length ≤ i → L.length - i = d → B + d + 60 < k →
    ∃ r r' b, spec_l03ToSamples.l0 k out L (i : Int) = some (r, b) ∧ impl_readSamples.l0 k out L (L.length : Int) (i : Int) = some (r', b) ∧ (b = true → r = r' ∧ r.length ≤ 8) := by
  induction d with
  | zero =>
    intro k i out hi ho hd hk
    obtain ⟨k, rfl⟩ : ∃ m, k = m + 1 := ⟨k - 1, by omega⟩
    obtain rfl : i = L.length := by omega
    obtain ⟨h1, h2⟩ := sok_eq out (by omega) k (by omega)
    simp only [spec_l03ToSamples.l0, impl_readSamples.l0]
    rw [if_neg (by omega), h1, h2]
    simp only [Option.bind_some]
    cases sokB out with
    | false => exact ⟨[], out, false, by simp, by simp, by simp⟩
    | true =>
      simp only [if_true]
      by_cases h8 : (out.length : Int) > 8
      · exact ⟨[], out, false, by rw [if_pos h8], by simp; omega, by simp⟩
      · exact ⟨out, out, true, by rw [if_neg h8], by simp; omega, fun _ => ⟨rfl, by omega⟩⟩
  | succ d ih =>
    intro k i out hi ho hd hk
    obtain ⟨k, rfl⟩ : ∃ m, k = m + 1 := ⟨k - 1, by omega⟩
    have hlt : i < L.length := by omega
    have hw : wrap64 ((i : Int) + 1) = ((i + 1 : Nat) : Int) := by unfold wrap64; omega
    have hp := hs L[i] (List.getElem_mem hlt)
    obtain ⟨r, r', b, h1, h2, h3⟩ := numbers_same L[i] 61 2 (by omega) (by omega) (by omega) k (by omega)
    have e1 : (((61 : UInt8).toNat : Nat) : Int) = 61 := rfl
    have e2 : ((2 : Nat) : Int) = 2 := rfl
    rw [e1, e2] at h1
    rw [e2] at h2
    simp only [spec_l03ToSamples.l0, impl_readSamples.l0]
    rw [if_pos (by omega), if_pos (by omega), if_pos (by omega), if_pos (by omega), if_pos (by omega), rdOf_at L i hlt, h1, h2]
    simp only [Option.bind_some]
    cases b with
    | false => exact ⟨[], [], false, by simp, by simp, by simp⟩
    | true =>
      obtain ⟨rfl, hlen⟩ := h3 rfl
      have hl : (r.length : Int) = 2 := by omega
      simp only [if_true, hl]
      rw [if_pos (by decide), if_pos (by decide), if_pos (by omega), if_pos (by decide), if_pos (by decide), if_pos (by omega), hw]
      exact ih k (i + 1) _ (by omega) (by rw [List.length_append, List.length_singleton]; omega) (by omega) (by omega)
theorem spec_samples_total (L : List ByteArray) (B : Nat) (hB : B ≤ 1048576) (hL : L.length ≤ 1048576) (hs : ∀ p ∈ L, p.size ≤ B) (d : Nat) : ∀ (k i : Nat) (out : List S49), i ≤ L.length → out.length ≤ i → L.length - i = d → B + 2 * L.length + d + 60 < k →
    ∃ r b, spec_l03ToSamples.l0 k out L (i : Int) = some (r, b) ∧ (b = true → out.length + (L.length - i) ≤ 8) := by
  induction d with
  | zero =>
    intro k i out hi ho hd hk
    obtain ⟨k, rfl⟩ : ∃ m, k = m + 1 := ⟨k - 1, by omega⟩
    obtain rfl : i = L.length := by omega
    obtain ⟨h1, _⟩ := sok_eq out (by omega) k (by omega)
    simp only [spec_l03ToSamples.l0]
    rw [if_neg (by omega), h1]
    simp only [Option.bind_some]
    cases sokB out with
    | false => exact ⟨[], false, by simp, by simp⟩
    | true =>
      simp only [if_true]
      by_cases h8 : (out.length : Int) > 8
      · exact ⟨[], false, by rw [if_pos h8], by simp⟩
      · exact ⟨out, true, by rw [if_neg h8], fun _ => by omega⟩
  | succ d ih =>
    intro k i out hi ho hd hk
    obtain ⟨k, rfl⟩ : ∃ m, k = m + 1 := ⟨k - 1, by omega⟩
    have hlt : i < L.length := by omega
    have hw : wrap64 ((i : Int) + 1) = ((i + 1 : Nat) : Int) := by unfold wrap64; omega
    have hp := hs L[i] (List.getElem_mem hlt)
    obtain ⟨r, r', b, h1, _, h3⟩ := numbers_same L[i] 61 2 (by omega) (by omega) (by omega) k (by omega)
    have e1 : (((61 : UInt8).toNat : Nat) : Int) = 61 := rfl
    have e2 : ((2 : Nat) : Int) = 2 := rfl
    rw [e1, e2] at h1
    simp only [spec_l03ToSamples.l0]
    rw [if_pos (by omega), if_pos (by omega), rdOf_at L i hlt, h1]
    simp only [Option.bind_some]
    cases b with
    | false => exact ⟨[], false, by simp, by simp⟩
    | true =>
      obtain ⟨_, hlen⟩ := h3 rfl
      have hl : (r.length : Int) = 2 := by omega
      simp only [if_true, hl]
      rw [if_pos (by decide), if_pos (by decide), if_pos (by omega), hw]
      obtain ⟨q, b, h4, h5⟩ := ih k (i + 1) (out ++ [⟨rd r 0, rd r 1⟩]) (by omega) (by rw [List.length_append, List.length_singleton]; omega) (by omega) (by omega)
      exact ⟨q, b, h4, fun h => by have := h5 h; rw [List.length_append, List.length_singleton] at this; omega⟩
theorem impl_samples_total (L : List ByteArray) (B : Nat) (hB : B ≤ 1048576) (hL : L.length ≤ 9) (hs : ∀ p ∈ L, p.size ≤ B) (d : Nat) : ∀ (k i : Nat) (out : List S49), i ≤ L.length → out.length ≤ i → L.length - i = d → B + d + 60 < k →
    ∃ r b, impl_readSamples.l0 k out L (L.length : Int) (i : Int) = some (r, b) ∧ (b = true → out.length + (L.length - i) ≤ 8) := by
  induction d with
  | zero =>
    intro k i out hi ho hd hk
    obtain ⟨k, rfl⟩ : ∃ m, k = m + 1 := ⟨k - 1, by omega⟩
    obtain rfl : i = L.length := by omega
    obtain ⟨_, h2⟩ := sok_eq out (by omega) k (by omega)
    simp only [impl_readSamples.l0]
    rw [if_neg (by omega), h2]
    simp only [Option.bind_some]
    cases sokB out with
    | false => exact ⟨out, false, by simp, by simp⟩
    | true => exact ⟨out, decide ((out.length : Int) ≤ 8), by simp only [if_true], fun h => by have := of_decide_eq_true h; omega⟩
  | succ d ih =>
    intro k i out hi ho hd hk
    obtain ⟨k, rfl⟩ : ∃ m, k = m + 1 := ⟨k - 1, by omega⟩
    have hlt : i < L.length := by omega
    have hw : wrap64 ((i : Int) + 1) = ((i + 1 : Nat) : Int) := by unfold wrap64; omega
    have hp := hs L[i] (List.getElem_mem hlt)
    obtain ⟨r, r', b, _, h2, h3⟩ := numbers_same L[i] 61 2 (by omega) (by omega) (by omega) k (by omega)
    have e2 : ((2 : Nat) : Int) = 2 := rfl
    rw [e2] at h2
    simp only [impl_readSamples.l0]
    rw [if_pos (by omega), if_pos (by omega), if_pos (by omega), rdOf_at L i hlt, h2]
    simp only [Option.bind_some]
    cases b with
    | false => exact ⟨[], false, by simp, by simp⟩
    | true =>
      obtain ⟨hr, hlen⟩ := h3 rfl
      have hl : (r'.length : Int) = 2 := by rw [← hr]; omega
      simp only [if_true, hl]
      rw [if_pos (by decide), if_pos (by decide), if_pos (by omega), hw]
      obtain ⟨q, b, h4, h5⟩ := ih k (i + 1) (out ++ [⟨rd r' 0, rd r' 1⟩]) (by omega) (by rw [List.length_append, List.length_singleton]; omega) (by omega) (by omega)
      exact ⟨q, b, h4, fun h => by have := h5 h; rw [List.length_append, List.length_singleton] at this; omega⟩
theorem readsamples_same (s : ByteArray) (hs : s.size ≤ 524288) (k : Nat) (hk : 5 * s.size + 200 < k) :
    ∃ r r' b, spec_l03ToSamples.f k s = some (r, b) ∧ impl_readSamples.f k s = some (r', b) ∧ (b = true → r = r' ∧ r.length ≤ 8) := by
  unfold spec_l03ToSamples.f impl_readSamples.f impl_parts.f
  have hsz : s.size = s.data.toList.length := by rw [Array.length_toList]; rfl
  have hpl := pieces_len 32 s.data.toList
  simp only [Option.bind_some]
  by_cases h0 : s.toList = []
  · rw [if_pos h0, if_pos h0]
    simp only [Option.bind_some]
    obtain ⟨r, r', b, h1, h2, h3⟩ := samples_loops [] 0 (by omega) (by simp) (by simp) 0 k 0 [] (by simp) (by simp) (by simp) (by omega)
    have e : impl_readSamples.l0 k [] [] (([] : List ByteArray).length : Int) ((0 : Nat) : Int) = some (r', b) := h2
    obtain ⟨k', rfl⟩ : ∃ m, k = m + 1 := ⟨k - 1, by omega⟩
    obtain ⟨_, h5⟩ := sok_eq [] (by simp) k' (by simp; omega)
    have h6 : impl_readSamples.l0 (k' + 1) [] [] (([] : List ByteArray).length : Int) 0 = some ([], true) := by
      simp only [impl_readSamples.l0]
      rw [if_neg (by simp), h5]
      simp [sokB, rise]
    exact ⟨[], [], true, rfl, h6, fun _ => ⟨rfl, by simp⟩⟩
  · rw [if_neg h0, if_neg h0]
    obtain ⟨L, e1, e2, e3, e4, e5, e6, e7⟩ := splitN_eq s 32 8 (by omega) (by omega) (by omega)
    have hw : ((8 + 1 : Nat) : Int) = 9 := rfl
    rw [hw] at e1
    have hc := cut_eq s 32 (by omega) k (by omega)
    have hc2 : (((32 : UInt8).toNat : Nat) : Int) = 32 := rfl
    rw [hc2] at hc
    rw [hc, e1]
    simp only [Option.bind_some]
    have hbytes : ∀ p ∈ mkP (pieces 32 s.data.toList), p.size ≤ s.size := fun p hp => by
      obtain ⟨q, hq, rfl⟩ := List.mem_map.1 hp
      have := pieces_bytes 32 _ q hq
      rw [size_mk]
      omega
    have hl2 : (mkP (pieces 32 s.data.toList)).length = (pieces 32 s.data.toList).length := by unfold mkP; rw [List.length_map]
    by_cases h9 : (pieces 32 s.data.toList).length ≤ 9
    · have hL := e5 h9
      subst hL
      exact samples_loops _ s.size (by omega) (by omega) hbytes _ k 0 [] (by omega) (by simp) rfl (by omega)
    · have hL := e6 (by omega)
      obtain ⟨r, b, h1, h2⟩ := spec_samples_total (mkP (pieces 32 s.data.toList)) s.size (by omega) (by omega) hbytes _ k 0 [] (by omega) (by simp) rfl (by omega)
      obtain ⟨r', b', h3, h4⟩ := impl_samples_total L s.size (by omega) (by omega) e7 _ k 0 [] (by omega) (by simp) rfl (by omega)
      rw [show ((0 : Nat) : Int) = 0 from rfl] at h1 h3
      rw [h1, h3]
      have hb : b = false := by
        cases b with
        | false => rfl
        | true => have := h2 rfl; simp at this; omega
      have hb' : b' = false := by
        cases b' with
        | false => rfl
        | true => have := h4 rfl; simp at this; omega
      subst hb; subst hb'
      exact ⟨r, r', false, rfl, rfl, by simp⟩
theorem readagg_bytes (s : ByteArray) (hs : s.size ≤ 1048576) (k : Nat) (hk : s.size + 40 < k) (a b c d e f : Int) (h : spec_l02Read.f k s = some (a, b, c, d, e, f, true)) : ∀ x ∈ s.data.toList, x = 44 ∨ isDig x = true ∨ x = 45 := by
  unfold spec_l02Read.f at h
  obtain ⟨r, r', q, h1, _, h3⟩ := numbers_same s 44 6 (by omega) (by omega) hs k hk
  have e1 : (((44 : UInt8).toNat : Nat) : Int) = 44 := rfl
  have e2 : ((6 : Nat) : Int) = 6 := rfl
  have hb := spec_numbers_bytes s 44 6 hs k hk
  rw [e1] at hb
  rw [e1, e2] at h1
  rw [h1] at h
  cases q with
  | false => simp at h
  | true => exact hb r h1
theorem bucket_elem (p : ByteArray) (hp : p.size ≤ 1048576) (k : Nat) (hk : p.size + 60 < k) : ∃ q : Option S75,
    (∀ F : S75 → Option (List S75 × Bool), ((spec_l00Cut.f k p 58).bind fun t175 => (if (t175.length : Int) = 2 then (if 0 < (t175.length : Int) then ((spec_l02Number.f k (rdOf ByteArray.empty t175 0)).bind fun bt182 => (if 1 < (t175.length : Int) then ((spec_l02Read.f k (rdOf ByteArray.empty t175 1)).bind fun bt185 => (if bt182.2 = true then (if bt185.2.2.2.2.2.2 = true then F (⟨bt182.1, ⟨bt185.1, bt185.2.1, bt185.2.2.1, bt185.2.2.2.1, bt185.2.2.2.2.1, bt185.2.2.2.2.2.1⟩⟩ : S75) else (some ([], false))) else (some ([], false)))) else (none))) else (none)) else (some ([], false)))) = match q with | some b => F b | none => some ([], false)) ∧
    (∀ F : S75 → Option (List S75 × Bool), ((strings_Cut.f p (⟨#[58]⟩ : ByteArray)).bind fun bt262 => ((impl_number.f bt262.1).bind fun bt265 => ((impl_readAgg.f k bt262.2.1).bind fun bt267 => (if bt262.2.2 = true then (if bt265.2 = true then (if bt267.2.2.2.2.2.2 = true then F (⟨bt265.1, ⟨bt267.1, bt267.2.1, bt267.2.2.1, bt267.2.2.2.1, bt267.2.2.2.2.1, bt267.2.2.2.2.2.1⟩⟩ : S75) else (some ([], false))) else (some ([], false))) else (some ([], false)))))) = match q with | some b => F b | none => some ([], false)) := by
  have hsz : p.size = p.data.toList.length := by rw [Array.length_toList]; rfl
  have hc := cut_eq p 58 hp k (by omega)
  have hc2 : (((58 : UInt8).toNat : Nat) : Int) = 58 := rfl
  rw [hc2] at hc
  have hcut : strings_Cut.f p (⟨#[58]⟩ : ByteArray) = some (⟨(Lib.cut p.data.toList [58]).1.toArray⟩, ⟨(Lib.cut p.data.toList [58]).2.1.toArray⟩, (Lib.cut p.data.toList [58]).2.2) := by
    unfold strings_Cut.f
    rw [if_pos (by omega)]
  rw [hc, hcut]
  simp only [Option.bind_some]
  rcases index_one 58 p.data.toList with ⟨_, h2⟩ | ⟨i, _, hi, h3, h4⟩
  · -- no such sign
    rw [pieces_none _ _ h2, cutB_none _ _ h2]
    refine ⟨none, fun F => by simp [mkP], fun F => ?_⟩
    obtain ⟨n, b, g1, _, _⟩ := num_impl ⟨p.data.toList.toArray⟩ (by rw [mk_data]; omega)
    obtain ⟨r, r', b', _, g2, _, _⟩ := readagg_same ⟨([] : List UInt8).toArray⟩ (by rw [size_mk]; simp) k (by rw [size_mk]; simp <;> omega)
    rw [g1, g2]
    simp
  · have hpc : pieces 58 p.data.toList = p.data.toList.take i :: pieces 58 (p.data.toList.drop (i + 1)) := by
      conv => lhs; rw [h4]
      exact pieces_app 58 _ _ h3
    have hct : Lib.cut p.data.toList [58] = (p.data.toList.take i, p.data.toList.drop (i + 1), true) := by
      conv => lhs; rw [h4]
      exact cutB_some 58 _ _ h3
    rw [hpc, hct]
    simp only
    generalize p.data.toList.drop (i + 1) = y at *
    generalize p.data.toList.take i = x at *
    have hlen : x.length + y.length < p.size := by rw [hsz, h4]; simp <;> omega
    obtain ⟨n, m, b, n1, n2, n3⟩ := num_same ⟨x.toArray⟩ (by rw [size_mk]; omega) k (by omega)
    obtain ⟨r, r', b', a1, a2, a3, _⟩ := readagg_same ⟨y.toArray⟩ (by rw [size_mk]; omega) k (by rw [size_mk]; omega)
    rw [n2, a2]
    simp only [Option.bind_some, if_true]
    rcases index_one 58 y with ⟨_, g2⟩ | ⟨j, _, hj, g3, g4⟩
    · -- just one
      rw [pieces_none _ _ g2]
      have e0 : rdOf ByteArray.empty (mkP [x, y]) 0 = ⟨x.toArray⟩ := rfl
      have e1 : rdOf ByteArray.empty (mkP [x, y]) 1 = ⟨y.toArray⟩ := rfl
      have el : ((mkP [x, y]).length : Int) = 2 := rfl
      rw [el, e0, e1, n1, a1]
      simp only [Option.bind_some]
      cases b with
      | false => exact ⟨none, fun F => by simp, fun F => by simp⟩
      | true =>
        obtain rfl := n3 rfl
        cases b' with
        | false => exact ⟨none, fun F => by simp, fun F => by simp⟩
        | true =>
          obtain rfl := a3 rfl
          exact ⟨some ⟨n, ⟨r.1, r.2.1, r.2.2.1, r.2.2.2.1, r.2.2.2.2.1, r.2.2.2.2.2⟩⟩, fun F => by simp, fun F => by simp⟩
    · -- more
      have hl3 : ¬ ((mkP (x :: pieces 58 y)).length : Int) = 2 := by
        rw [g4, pieces_app 58 _ _ g3]
        have := pieces_ne 58 (y.drop (j + 1))
        have : 0 < (pieces 58 (y.drop (j + 1))).length := List.length_pos_iff.2 this
        unfold mkP
        rw [List.length_map]
        simp only [List.length_cons]
        omega
      refine ⟨none, fun F => by rw [if_neg hl3], fun F => ?_⟩
      have hb' : b' = false := by
        cases b' with
        | false => rfl
        | true =>
          have := readagg_bytes ⟨y.toArray⟩ (by rw [size_mk]; omega) k (by rw [size_mk]; omega) _ _ _ _ _ _ a1 58 (by show (58 : UInt8) ∈ y; rw [g4]; simp)
          revert this; decide
      subst hb'
      cases b <;> simp
theorem buckets_loops (L : List ByteArray) (B : Nat) (hB : B ≤ 1048576) (hL : L.length ≤ 9) (hs : ∀ p ∈ L, p.size ≤ B) (d : Nat) : ∀ (k i : Nat) (out : List S75), i ≤ L.length → out.length ≤ i → L.length - i = d → B + d + 90 < k →
    ∃ r r' b, spec_l03ToBuckets.l0 k out L (i : Int) = some (r, b) ∧ impl_readBuckets.l0 k out L (L.length : Int) (i : Int) = some (r', b) ∧ (b = true → r = r' ∧ r.length ≤ 8) := by
  induction d with
  | zero =>
    intro k i out hi ho hd hk
    obtain ⟨k, rfl⟩ : ∃ m, k = m + 1 := ⟨k - 1, by omega⟩
    obtain rfl : i = L.length := by omega
    obtain ⟨h1, h2⟩ := bok_eq out (by omega) k (by omega)
    simp only [spec_l03ToBuckets.l0, impl_readBuckets.l0]
    rw [if_neg (by omega), h1, h2]
    simp only [Option.bind_some]
    cases hq : bokB out with
    | false => exact ⟨[], out, false, by simp, by rw [if_neg (by omega)], by simp⟩
    | true =>
      refine ⟨out, out, true, by simp, by rw [if_neg (by omega)], fun _ => ⟨rfl, ?_⟩⟩
      unfold bokB at hq
      rw [Bool.and_eq_true, decide_eq_true_eq] at hq
      omega
  | succ d ih =>
    intro k i out hi ho hd hk
    obtain ⟨k, rfl⟩ : ∃ m, k = m + 1 := ⟨k - 1, by omega⟩
    have hlt : i < L.length := by omega
    have hw : wrap64 ((i : Int) + 1) = ((i + 1 : Nat) : Int) := by unfold wrap64; omega
    have hp := hs L[i] (List.getElem_mem hlt)
    obtain ⟨q, h1, h2⟩ := bucket_elem L[i] (by omega) k (by omega)
    simp only [spec_l03ToBuckets.l0, impl_readBuckets.l0]
    rw [if_pos (by omega), if_pos (by omega), if_pos (by omega), if_pos (by omega), if_pos (by omega), rdOf_at L i hlt, hw]
    rw [h1 (fun b => if out.length < 2513169434916 then spec_l03ToBuckets.l0 k (out ++ [b]) L ((i + 1 : Nat) : Int) else none), h2 (fun b => if out.length < 2513169434916 then impl_readBuckets.l0 k (out ++ [b]) L (L.length : Int) ((i + 1 : Nat) : Int) else none)]
    cases q with
    | none => exact ⟨[], [], false, rfl, rfl, by simp⟩
    | some b =>
      simp only
      rw [if_pos (by omega), if_pos (by omega)]
      exact ih k (i + 1) _ (by omega) (by rw [List.length_append, List.length_singleton]; omega) (by omega) (by omega)
theorem spec_buckets_total (L : List ByteArray) (B : Nat) (hB : B ≤ 1048576) (hL : L.length ≤ 1048576) (hs : ∀ p ∈ L, p.size ≤ B) (d : Nat) : ∀ (k i : Nat) (out : List S75), i ≤ L.length → out.length ≤ i → L.length - i = d → B + 2 * L.length + d + 90 < k →
    ∃ r b, spec_l03ToBuckets.l0 k out L (i : Int) = some (r, b) ∧ (b = true → out.length + (L.length - i) ≤ 8) := by
  induction d with
  | zero =>
    intro k i out hi ho hd hk
    obtain ⟨k, rfl⟩ : ∃ m, k = m + 1 := ⟨k - 1, by omega⟩
    obtain rfl : i = L.length := by omega
    obtain ⟨h1, _⟩ := bok_eq out (by omega) k (by omega)
    simp only [spec_l03ToBuckets.l0]
    rw [if_neg (by omega), h1]
    simp only [Option.bind_some]
    cases hq : bokB out with
    | false => exact ⟨[], false, by simp, by simp⟩
    | true =>
      refine ⟨out, true, by simp, fun _ => ?_⟩
      unfold bokB at hq
      rw [Bool.and_eq_true, decide_eq_true_eq] at hq
      omega
  | succ d ih =>
    intro k i out hi ho hd hk
    obtain ⟨k, rfl⟩ : ∃ m, k = m + 1 := ⟨k - 1, by omega⟩
    have hlt : i < L.length := by omega
    have hw : wrap64 ((i : Int) + 1) = ((i + 1 : Nat) : Int) := by unfold wrap64; omega
    have hp := hs L[i] (List.getElem_mem hlt)
    obtain ⟨q, h1, _⟩ := bucket_elem L[i] (by omega) k (by omega)
    simp only [spec_l03ToBuckets.l0]
    rw [if_pos (by omega), if_pos (by omega), rdOf_at L i hlt, hw]
    rw [h1 (fun b => if out.length < 2513169434916 then spec_l03ToBuckets.l0 k (out ++ [b]) L ((i + 1 : Nat) : Int) else none)]
    cases q with
    | none => exact ⟨[], false, rfl, by simp⟩
    | some b =>
      simp only
      rw [if_pos (by omega)]
      obtain ⟨r, b', h4, h5⟩ := ih k (i + 1) (out ++ [b]) (by omega) (by rw [List.length_append, List.length_singleton]; omega) (by omega) (by omega)
      exact ⟨r, b', h4, fun h => by have := h5 h; rw [List.length_append, List.length_singleton] at this; omega⟩
theorem impl_buckets_total (L : List ByteArray) (B : Nat) (hB : B ≤ 1048576) (hL : L.length ≤ 9) (hs : ∀ p ∈ L, p.size ≤ B) (d : Nat) : ∀ (k i : Nat) (out : List S75), i ≤ L.length → out.length ≤ i → L.length - i = d → B + d + 90 < k →
    ∃ r b, impl_readBuckets.l0 k out L (L.length : Int) (i : Int) = some (r, b) ∧ (b = true → out.length + (L.length - i) ≤ 8) := by
  induction d with
  | zero =>
    intro k i out hi ho hd hk
    obtain ⟨k, rfl⟩ : ∃ m, k = m + 1 := ⟨k - 1, by omega⟩
    obtain rfl : i = L.length := by omega
    obtain ⟨_, h2⟩ := bok_eq out (by omega) k (by omega)
    simp only [impl_readBuckets.l0]
    rw [if_neg (by omega), h2]
    simp only [Option.bind_some]
    refine ⟨out, bokB out, rfl, fun hq => ?_⟩
    unfold bokB at hq
    rw [Bool.and_eq_true, decide_eq_true_eq] at hq
    omega
  | succ d ih =>
    intro k i out hi ho hd hk
    obtain ⟨k, rfl⟩ : ∃ m, k = m + 1 := ⟨k - 1, by omega⟩
    have hlt : i < L.length := by omega
    have hw : wrap64 ((i : Int) + 1) = ((i + 1 : Nat) : Int) := by unfold wrap64; omega
    have hp := hs L[i] (List.getElem_mem hlt)
    obtain ⟨q, _, h2⟩ := bucket_elem L[i] (by omega) k (by omega)
    simp only [impl_readBuckets.l0]
    rw [if_pos (by omega), if_pos (by omega), if_pos (by omega), rdOf_at L i hlt, hw]
    rw [h2 (fun b => if out.length < 2513169434916 then impl_readBuckets.l0 k (out ++ [b]) L (L.length : Int) ((i + 1 : Nat) : Int) else none)]
    cases q with
    | none => exact ⟨[], false, rfl, by simp⟩
    | some b =>
      simp only
      rw [if_pos (by omega)]
      obtain ⟨r, b', h4, h5⟩ := ih k (i + 1) (out ++ [b]) (by omega) (by rw [List.length_append, List.length_singleton]; omega) (by omega) (by omega)
      exact ⟨r, b', h4, fun h => by have := h5 h; rw [List.length_append, List.length_singleton] at this; omega⟩
theorem readbuckets_same (s : ByteArray) (hs : s.size ≤ 262144) (k : Nat) (hk : 6 * s.size + 200 < k) :
    ∃ r r' b, spec_l03ToBuckets.f k s = some (r, b) ∧ impl_readBuckets.f k s = some (r', b) ∧ (b = true → r = r' ∧ r.length ≤ 8) := by
  unfold spec_l03ToBuckets.f impl_readBuckets.f impl_parts.f
  have hsz : s.size = s.data.toList.length := by rw [Array.length_toList]; rfl
  have hpl := pieces_len 32 s.data.toList
  simp only [Option.bind_some]
  by_cases h0 : s.toList = []
  · rw [if_pos h0, if_pos h0]
    simp only [Option.bind_some]
    obtain ⟨k', rfl⟩ : ∃ m, k = m + 1 := ⟨k - 1, by omega⟩
    obtain ⟨_, h5⟩ := bok_eq [] (by simp) k' (by simp; omega)
    have h6 : impl_readBuckets.l0 (k' + 1) [] [] (([] : List ByteArray).length : Int) 0 = some ([], true) := by
      simp only [impl_readBuckets.l0]
      rw [if_neg (by simp), h5]
      simp [bokB, riseB]
    exact ⟨[], [], true, rfl, h6, fun _ => ⟨rfl, by simp⟩⟩
  · rw [if_neg h0, if_neg h0]
    obtain ⟨L, e1, e2, e3, e4, e5, e6, e7⟩ := splitN_eq s 32 8 (by omega) (by omega) (by omega)
    have hw : ((8 + 1 : Nat) : Int) = 9 := rfl
    rw [hw] at e1
    have hc := cut_eq s 32 (by omega) k (by omega)
    have hc2 : (((32 : UInt8).toNat : Nat) : Int) = 32 := rfl
    rw [hc2] at hc
    rw [hc, e1]
    simp only [Option.bind_some]
    have hbytes : ∀ p ∈ mkP (pieces 32 s.data.toList), p.size ≤ s.size := fun p hp => by
      obtain ⟨q, hq, rfl⟩ := List.mem_map.1 hp
      have := pieces_bytes 32 _ q hq
      rw [size_mk]
      omega
    have hl2 : (mkP (pieces 32 s.data.toList)).length = (pieces 32 s.data.toList).length := by unfold mkP; rw [List.length_map]
    by_cases h9 : (pieces 32 s.data.toList).length ≤ 9
    · have hL := e5 h9
      subst hL
      exact buckets_loops _ s.size (by omega) (by omega) hbytes _ k 0 [] (by omega) (by simp) rfl (by omega)
    · have hL := e6 (by omega)
      obtain ⟨r, b, h1, h2⟩ := spec_buckets_total (mkP (pieces 32 s.data.toList)) s.size (by omega) (by omega) hbytes _ k 0 [] (by omega) (by simp) rfl (by omega)
      obtain ⟨r', b', h3, h4⟩ := impl_buckets_total L s.size (by omega) (by omega) e7 _ k 0 [] (by omega) (by simp) rfl (by omega)
      rw [show ((0 : Nat) : Int) = 0 from rfl] at h1 h3
      rw [h1, h3]
      have hb : b = false := by
        cases b with
        | false => rfl
        | true => have := h2 rfl; simp at this; omega
      have hb' : b' = false := by
        cases b' with
        | false => rfl
        | true => have := h4 rfl; simp at this; omega
      subst hb; subst hb'
      exact ⟨r, r', false, rfl, rfl, by simp⟩
def isKey (s : ByteArray) (a b c : Int) : Prop := (0 ≤ a ∧ a ≤ 2) ∧ (0 ≤ b ∧ b ≤ 999999) ∧ (0 ≤ c ∧ c ≤ 999999) ∧ s = keyB a b c
theorem keyok_eq (a b c : Int) : ∃ r, spec_l03KeyOK.f a b c = some r ∧ (r = true ↔ (0 ≤ a ∧ a ≤ 2) ∧ (0 ≤ b ∧ b ≤ 999999) ∧ (0 ≤ c ∧ c ≤ 999999)) := by
  unfold spec_l03KeyOK.f
  simp only [in_eq, Option.bind_some]
  by_cases h1 : 0 ≤ a ∧ a ≤ 2
  · have e1 : (decide (0 ≤ a) && decide (a ≤ 2)) = true := by simp [h1]
    rw [e1, if_pos rfl]
    by_cases h2 : 0 ≤ b ∧ b ≤ 999999
    · have e2 : (decide (0 ≤ b) && decide (b ≤ 999999)) = true := by simp [h2]
      rw [e2, if_pos rfl]
      exact ⟨_, rfl, by rw [Bool.and_eq_true, decide_eq_true_eq, decide_eq_true_eq]; exact ⟨fun h => ⟨h1, h2, h⟩, fun h => h.2.2⟩⟩
    · have e2 : (decide (0 ≤ b) && decide (b ≤ 999999)) = false := by
        rw [Bool.and_eq_false_iff, decide_eq_false_iff_not, decide_eq_false_iff_not]; omega
      rw [e2]
      exact ⟨false, by simp, by simp; intro _ _ h3 h4; exact absurd ⟨h3, h4⟩ h2⟩
  · have e1 : (decide (0 ≤ a) && decide (a ≤ 2)) = false := by
      rw [Bool.and_eq_false_iff, decide_eq_false_iff_not, decide_eq_false_iff_not]; omega
    rw [e1]
    exact ⟨false, by simp, by simp; intro h3 h4; exact absurd ⟨h3, h4⟩ h1⟩
theorem fw_dig : ∀ w u, (fw w u).all isDig = true ∧ dval 0 (fw w u) = u % 10 ^ w
  | 0, u => ⟨rfl, by simp [fw, dval, Nat.mod_one]⟩
  | w + 1, u => by
    obtain ⟨i1, i2⟩ := fw_dig w (u / 10)
    have e := ofNat_toNat (48 + u % 10) (by omega)
    rw [fw]
    refine ⟨?_, ?_⟩
    · rw [List.all_append, i1]
      simp only [List.all_cons, List.all_nil, Bool.and_true, isDig, e, Bool.true_and]
      simp
      omega
    · rw [dval_append, i2, e, Nat.pow_succ, Nat.mul_comm (10 ^ w) 10, Nat.mod_mul]
      omega
theorem fw_not (x : UInt8) (hx : isDig x = false) (w u : Nat) : x ∉ fw w u := fun h => by
  have := List.all_eq_true.1 (fw_dig w u).1 x h
  rw [hx] at this
  cases this
theorem digit_eq (c : UInt8) : spec_l00Digit.f ((c.toNat : Nat) : Int) = some (isDig c) := by
  unfold spec_l00Digit.f isDig
  by_cases h : ((c.toNat : Nat) : Int) ≥ 48
  · rw [if_pos h, show decide (48 ≤ c.toNat) = true from decide_eq_true (by omega), Bool.true_and]
    congr 1
    by_cases h2 : c.toNat ≤ 57
    · rw [decide_eq_true (by omega), decide_eq_true h2]
    · rw [decide_eq_false (by omega), decide_eq_false h2]
  · rw [if_neg h, show decide (48 ≤ c.toNat) = false from decide_eq_false (by omega), Bool.false_and]
theorem fixed_total (l : List UInt8) (hl : l.length ≤ 1048576) (d : Nat) : ∀ (k i : Nat) (x : Int), i ≤ l.length → l.length - i = d → d < k → ∃ n b, spec_l03Fixed.l0 k ⟨l.toArray⟩ x (i : Int) = some (n, b) := by
  induction d with
  | zero =>
    intro k i x hi hd hk
    obtain ⟨k, rfl⟩ : ∃ m, k = m + 1 := ⟨k - 1, by omega⟩
    simp only [spec_l03Fixed.l0]
    rw [if_neg (by rw [size_mk]; omega)]
    exact ⟨_, _, rfl⟩
  | succ d ih =>
    intro k i x hi hd hk
    obtain ⟨k, rfl⟩ : ∃ m, k = m + 1 := ⟨k - 1, by omega⟩
    have hlt : i < l.length := by omega
    have hw : wrap64 ((i : Int) + 1) = ((i + 1 : Nat) : Int) := by unfold wrap64; omega
    simp only [spec_l03Fixed.l0]
    rw [if_pos (by rw [size_mk]; omega), if_pos (by omega), bt_mk l i hlt, digit_eq, hw]
    simp only [Option.bind_some]
    cases isDig l[i] with
    | false => exact ⟨0, false, by simp⟩
    | true => simp only [if_true]; exact ih k (i + 1) _ (by omega) (by omega) (by omega)
theorem fixed_six (l : List UInt8) (hl : l.length ≤ 6) (ha : l.all isDig = true) (d : Nat) : ∀ (k i a : Nat), i ≤ l.length → l.length - i = d → d < k → a < 10 ^ i → spec_l03Fixed.l0 k ⟨l.toArray⟩ (a : Int) (i : Int) = some ((dval a (l.drop i) : Int), true) := by
  induction d with
  | zero =>
    intro k i a hi hd hk _
    obtain ⟨k, rfl⟩ : ∃ m, k = m + 1 := ⟨k - 1, by omega⟩
    simp only [spec_l03Fixed.l0]
    rw [if_neg (by rw [size_mk]; omega), List.drop_of_length_le (by omega)]
    rfl
  | succ d ih =>
    intro k i a hi hd hk ha2
    obtain ⟨k, rfl⟩ : ∃ m, k = m + 1 := ⟨k - 1, by omega⟩
    have hlt : i < l.length := by omega
    have hp : 10 ^ i ≤ 100000 := by have := Nat.pow_le_pow_right (n := 10) (by decide) (show i ≤ 5 by omega); simpa using this
    have hps : 10 ^ (i + 1) = 10 ^ i * 10 := Nat.pow_succ ..
    have hdr := List.drop_eq_getElem_cons hlt
    have hc : isDig l[i] = true := List.all_eq_true.1 ha _ (List.getElem_mem hlt)
    simp only [spec_l03Fixed.l0]
    rw [if_pos (by rw [size_mk]; omega), if_pos (by omega), bt_mk l i hlt, digit_eq, hdr]
    generalize l[i] = c at hc ⊢
    have hc1 : 48 ≤ c.toNat ∧ c.toNat ≤ 57 := by simp [isDig] at hc; omega
    rw [hc]
    simp only [Option.bind_some, if_true]
    have hx : a * 10 + (c.toNat - 48) < 10 ^ (i + 1) := by rw [hps]; omega
    have ih' := ih k (i + 1) (a * 10 + (c.toNat - 48)) (by omega) (by omega) (by omega) hx
    have a5 : a < 100000 := by omega
    clear ih hx hps hp ha2
    have e1 : wrap64 ((wrap64 (10 * (a : Int))) + ((((c.toNat : Nat) : Int) - 48) % 256)) = ((a * 10 + (c.toNat - 48) : Nat) : Int) := by
      clear ih'
      rw [wrap_id (10 * (a : Int)) (by omega) (by omega), wrap_id (10 * (a : Int) + ((((c.toNat : Nat) : Int) - 48) % 256)) (by omega) (by omega)]
      omega
    have e2 : wrap64 ((i : Int) + 1) = ((i + 1 : Nat) : Int) := by clear e1; rw [wrap_id ((i : Int) + 1) (by omega) (by omega)]; omega
    rw [e1, e2, ih', dval_cons]
theorem fixed_fw (u : Nat) (hu : u < 1000000) (k : Nat) (hk : 7 ≤ k) : spec_l03Fixed.f k ⟨(fw 6 u).toArray⟩ = some ((u : Int), true) := by
  obtain ⟨h1, h2⟩ := fw_dig 6 u
  have h := fixed_six (fw 6 u) (by rw [fw_length]; omega) h1 6 k 0 0 (by omega) (by rw [fw_length]) (by omega) (by simp)
  rw [show ((0 : Nat) : Int) = 0 from rfl, List.drop_zero, h2, Nat.mod_eq_of_lt (by simpa using hu)] at h
  exact h
def preB (a : Int) : List UInt8 := if a = 0 then [114, 97, 119] else if a = 1 then [116, 49] else [116, 50]
theorem pre3_eq (a : Int) : pre3 a = preB a ++ [47] := by
  unfold pre3 preB
  split
  · rfl
  · split <;> rfl
theorem key_pieces (a b c : Int) : pieces 47 (keyB a b c).data.toList = [preB a, fw 6 b.toNat ++ [45] ++ fw 6 c.toNat] := by
  have e : (keyB a b c).data.toList = preB a ++ 47 :: (fw 6 b.toNat ++ [45] ++ fw 6 c.toNat) := by
    show pre3 a ++ fw 6 b.toNat ++ [45] ++ fw 6 c.toNat = _
    rw [pre3_eq]
    simp
  have h1 : (47 : UInt8) ∉ preB a := by
    unfold preB
    split
    · decide
    · split <;> decide
  have h2 : (47 : UInt8) ∉ fw 6 b.toNat ++ [45] ++ fw 6 c.toNat := by
    simp only [List.mem_append, List.mem_singleton, not_or]
    exact ⟨⟨fw_not 47 rfl _ _, by decide⟩, fw_not 47 rfl _ _⟩
  rw [e, pieces_app 47 _ _ h1, pieces_none 47 _ h2]
theorem extract_six (l : List UInt8) : (⟨l.toArray⟩ : ByteArray).extract 0 6 = ⟨(l.take 6).toArray⟩ := extract_take l 6
theorem toKey_j1 (k : Nat) (hk : 0 < k) (a b c : Int) (d : Bool) : spec_l03ToKey.j1 k a b c d = if d = true then some (0, 0, 0, false) else some (a, b, c, true) := by
  obtain ⟨m, rfl⟩ : ∃ m, k = m + 1 := ⟨k - 1, by omega⟩
  rfl
theorem spec_key_at (s : ByteArray) (x y : List UInt8) (hs : s.size ≤ 1048576) (hp : pieces 47 s.data.toList = [x, y]) (h13 : y.length = 13) (h6 : y[6]'(by omega) = 45) (k : Nat) (hk : s.size + 40 < k) (n1 n2 : Int) (b1 b2 : Bool)
    (e1 : spec_l03Fixed.f k ⟨(y.take 6).toArray⟩ = some (n1, b1)) (e2 : spec_l03Fixed.f k ⟨(y.drop 7).toArray⟩ = some (n2, b2)) : ∃ t : Int, t = (if x = [116, 49] then 1 else if x = [116, 50] then 2 else 0) ∧
    spec_l03ToKey.f (k + 1) s = (if b1 = true then if b2 = true then if ((0 ≤ t ∧ t ≤ 2) ∧ (0 ≤ n1 ∧ n1 ≤ 999999) ∧ (0 ≤ n2 ∧ n2 ≤ 999999)) ∧ s = keyB t n1 n2 then some (t, n1, n2, true) else some (0, 0, 0, false) else some (0, 0, 0, false) else some (0, 0, 0, false)) := by
  refine ⟨_, rfl, ?_⟩
  unfold spec_l03ToKey.f
  have hc := cut_eq s 47 hs (k + 1) (by omega)
  have hc2 : (((47 : UInt8).toNat : Nat) : Int) = 47 := rfl
  rw [hc2] at hc
  rw [hc, hp]
  simp only [Option.bind_some]
  have g0 : rdOf ByteArray.empty (mkP [x, y]) 0 = ⟨x.toArray⟩ := rfl
  have g1 : rdOf ByteArray.empty (mkP [x, y]) 1 = ⟨y.toArray⟩ := rfl
  have gl : ((mkP [x, y]).length : Int) = 2 := rfl
  have gs : ((⟨y.toArray⟩ : ByteArray).size : Int) = 13 := by rw [size_mk, h13]; rfl
  have gb : bt ⟨y.toArray⟩ 6 = 45 := by
    have := bt_mk y 6 (by omega)
    rw [show ((6 : Nat) : Int) = 6 from rfl] at this
    rw [this, h6]; rfl
  rw [gl, g1, gs, gb, if_pos (by decide), if_pos (by decide), if_pos (by decide), if_pos (by decide)]
  simp only [spec_l03ToKey.j0, gl, g0, g1, gs, toKey_j1 k (by omega), if_true]
  rw [if_neg (by decide), if_pos (by decide)]
  have hx1 : spec_l01Bit.f ((⟨x.toArray⟩ : ByteArray).toList == ([116, 49] : List UInt8)) = some (if x = [116, 49] then 1 else 0) := by
    unfold spec_l01Bit.f
    rw [ByteArray.toList_mk]
    by_cases h : x = [116, 49] <;> simp [h]
  have hx2 : spec_l01Bit.f ((⟨x.toArray⟩ : ByteArray).toList == ([116, 50] : List UInt8)) = some (if x = [116, 50] then 1 else 0) := by
    unfold spec_l01Bit.f
    rw [ByteArray.toList_mk]
    by_cases h : x = [116, 50] <;> simp [h]
  have ex7 : (⟨y.toArray⟩ : ByteArray).extract 7 (⟨y.toArray⟩ : ByteArray).size = ⟨(y.drop 7).toArray⟩ := extract_mk y 7
  rw [hx1, hx2, extract_six, ex7]
  simp only [Option.bind_some]
  rw [if_pos (by decide), if_pos (by decide), if_pos (by decide), e1]
  simp only [Option.bind_some]
  rw [if_pos (by decide), e2]
  simp only [Option.bind_some]
  have ht : wrap64 ((if x = [116, 49] then (1 : Int) else 0) + wrap64 (2 * (if x = [116, 50] then (1 : Int) else 0))) = (if x = [116, 49] then 1 else if x = [116, 50] then 2 else 0) := by
    by_cases h1 : x = [116, 49]
    · subst h1; rw [if_pos rfl, if_neg (by decide), if_pos rfl]; unfold wrap64; omega
    · rw [if_neg h1, if_neg h1]
      by_cases h2 : x = [116, 50]
      · rw [if_pos h2, if_pos h2]; unfold wrap64; omega
      · rw [if_neg h2, if_neg h2]; unfold wrap64; omega
  rw [ht]
  generalize (if x = [116, 49] then (1 : Int) else if x = [116, 50] then 2 else 0) = t
  cases b1 with
  | false => simp
  | true =>
    cases b2 with
    | false => simp
    | true =>
      simp only [if_true]
      obtain ⟨r, k1, k2⟩ := keyok_eq t n1 n2
      rw [k1]
      simp only [Option.bind_some]
      cases r with
      | false =>
        have : ¬ ((0 ≤ t ∧ t ≤ 2) ∧ (0 ≤ n1 ∧ n1 ≤ 999999) ∧ (0 ≤ n2 ∧ n2 ≤ 999999)) := fun h => by have := k2.2 h; cases this
        simp only [Bool.false_eq_true, if_false]
        rw [if_neg (fun h => this h.1)]
      | true =>
        have hr := k2.1 rfl
        simp only [if_true]
        rw [key_spec t n1 n2 hr.1 hr.2.1 hr.2.2 k (by omega)]
        simp only [Option.bind_some]
        by_cases he : (keyB t n1 n2).toList = s.toList
        · have hs2 : s = keyB t n1 n2 := by
            rw [ByteArray.toList_eq, ByteArray.toList_eq] at he
            rw [← mk_data s, ← he, mk_data]
          rw [if_neg (by rw [he]; simp), if_pos ⟨hr, hs2⟩]
        · rw [if_pos (by simpa using he), if_neg (fun h => he (by rw [← h.2]))]
theorem spec_key_none (s : ByteArray) (hs : s.size ≤ 1048576) (k : Nat) (hk : s.size + 40 < k) (h : ∀ x y : List UInt8, pieces 47 s.data.toList = [x, y] → ∀ h13 : y.length = 13, y[6]'(by omega) ≠ 45) : spec_l03ToKey.f (k + 1) s = some (0, 0, 0, false) := by
  unfold spec_l03ToKey.f
  have hc := cut_eq s 47 hs (k + 1) (by omega)
  have hc2 : (((47 : UInt8).toNat : Nat) : Int) = 47 := rfl
  rw [hc2] at hc
  rw [hc]
  simp only [Option.bind_some]
  have hj : ∀ L, spec_l03ToKey.j0 (k + 1) s L true = some (0, 0, 0, false) := fun L => by simp only [spec_l03ToKey.j0]; rw [if_pos trivial]
  by_cases h2 : (pieces 47 s.data.toList).length = 2
  · obtain ⟨x, y, hp⟩ : ∃ x y, pieces 47 s.data.toList = [x, y] := by
      match hq : pieces 47 s.data.toList with
      | [x, y] => exact ⟨x, y, rfl⟩
      | [] => rw [hq] at h2; simp at h2
      | [_] => rw [hq] at h2; simp at h2
      | _ :: _ :: _ :: _ => rw [hq] at h2; simp at h2
    rw [hp]
    have g1 : rdOf ByteArray.empty (mkP [x, y]) 1 = ⟨y.toArray⟩ := rfl
    have gl : ((mkP [x, y]).length : Int) = 2 := rfl
    rw [gl, g1, if_pos rfl, if_pos (by decide), size_mk]
    by_cases h13 : y.length = 13
    · rw [if_pos (by omega), if_pos (by omega)]
      have hb := bt_mk y 6 (by omega)
      rw [show ((6 : Nat) : Int) = 6 from rfl] at hb
      have hn := h x y hp h13
      have : (bt ⟨y.toArray⟩ 6 != 45) = true := by
        rw [hb, bne_iff_ne]
        intro e
        apply hn
        apply UInt8.toNat_inj.1
        show _ = 45
        omega
      rw [this, hj]
    · rw [if_neg (by omega), hj]
  · have gl : ((mkP (pieces 47 s.data.toList)).length : Int) = ((pieces 47 s.data.toList).length : Int) := by unfold mkP; rw [List.length_map]
    rw [gl, if_neg (by omega), hj]
theorem spec_key_T (s : ByteArray) (hs : s.size ≤ 1048576) (k : Nat) (hk : s.size + 40 < k) : ∃ a b c q, spec_l03ToKey.f (k + 1) s = some (a, b, c, q) ∧ (q = true → isKey s a b c) := by
  by_cases h : ∀ x y : List UInt8, pieces 47 s.data.toList = [x, y] → ∀ h13 : y.length = 13, y[6]'(by omega) ≠ 45
  · exact ⟨0, 0, 0, false, spec_key_none s hs k hk h, by simp⟩
  · simp only [Classical.not_forall, Classical.not_not] at h
    obtain ⟨x, y, hp, h13, h6⟩ := h
    obtain ⟨n1, b1, e1⟩ := fixed_total (y.take 6) (by rw [List.length_take]; omega) (y.take 6).length k 0 0 (by omega) (by omega) (by rw [List.length_take]; omega)
    obtain ⟨n2, b2, e2⟩ := fixed_total (y.drop 7) (by rw [List.length_drop]; omega) (y.drop 7).length k 0 0 (by omega) (by omega) (by rw [List.length_drop]; omega)
    obtain ⟨t, _, ht⟩ := spec_key_at s x y hs hp h13 h6 k hk n1 n2 b1 b2 e1 e2
    rw [ht]
    split
    · split
      · split
        · rename_i hr
          exact ⟨_, _, _, _, rfl, fun _ => ⟨hr.1.1, hr.1.2.1, hr.1.2.2, hr.2⟩⟩
        · exact ⟨_, _, _, _, rfl, by simp⟩
      · exact ⟨_, _, _, _, rfl, by simp⟩
    · exact ⟨_, _, _, _, rfl, by simp⟩
theorem keyB_size (a b c : Int) : (keyB a b c).size ≤ 17 := by
  show ((pre3 a ++ fw 6 b.toNat ++ [45] ++ fw 6 c.toNat).toArray).size ≤ 17
  rw [List.size_toArray]
  simp only [List.length_append, fw_length, List.length_singleton]
  have : (pre3 a).length ≤ 4 := by
    unfold pre3
    split
    · decide
    · split <;> decide
  omega
theorem spec_key_C (a b c : Int) (h1 : 0 ≤ a ∧ a ≤ 2) (h2 : 0 ≤ b ∧ b ≤ 999999) (h3 : 0 ≤ c ∧ c ≤ 999999) (k : Nat) (hk : 60 < k) : spec_l03ToKey.f (k + 1) (keyB a b c) = some (a, b, c, true) := by
  have hsz := keyB_size a b c
  have hp := key_pieces a b c
  have t6 : (fw 6 b.toNat ++ [45] ++ fw 6 c.toNat).take 6 = fw 6 b.toNat := by
    rw [List.append_assoc, List.take_left' (fw_length 6 _)]
  have d7 : (fw 6 b.toNat ++ [45] ++ fw 6 c.toNat).drop 7 = fw 6 c.toNat := List.drop_left' (by simp [fw_length])
  obtain ⟨t, ht, hk2⟩ := spec_key_at (keyB a b c) _ _ (by omega) hp (by simp [fw_length]) (by rw [List.getElem_append_left (by simp [fw_length]), List.getElem_append_right (by simp [fw_length])]; simp [fw_length]) k (by omega) b c true true
    (by rw [t6, fixed_fw b.toNat (by omega) k (by omega)]; congr 1; rw [Int.toNat_of_nonneg h2.1]) (by rw [d7, fixed_fw c.toNat (by omega) k (by omega)]; congr 1; rw [Int.toNat_of_nonneg h3.1])
  have hta : t = a := by
    rw [ht]
    have : a = 0 ∨ a = 1 ∨ a = 2 := by omega
    rcases this with rfl | rfl | rfl <;> rfl
  rw [hk2, hta]
  simp only [if_true]
  rw [if_pos ⟨⟨h1, h2, h3⟩, trivial⟩]
theorem readSix_T (s : ByteArray) (hs : s.size ≤ 1048576) : ∃ n q, impl_readSix.f s = some (n, q) ∧ (q = true → (0 ≤ n ∧ n ≤ 999999) ∧ s = s6 n) := by
  unfold impl_readSix.f
  rw [if_pos (by omega)]
  split
  · rename_i v _
    split
    · rename_i hv
      rw [six_eq v hv.1 hv.2]
      simp only [Option.bind_some]
      refine ⟨v, _, rfl, fun h => ⟨hv, ?_⟩⟩
      have h := beq_iff_eq.1 h
      rw [ByteArray.toList_eq, ByteArray.toList_eq] at h
      rw [← mk_data s, ← h, mk_data]
    · exact ⟨_, _, rfl, by simp⟩
  · exact ⟨_, _, rfl, by simp⟩
  · exact ⟨_, _, rfl, by simp⟩
theorem readSix_C (n : Int) (h0 : 0 ≤ n) (h1 : n ≤ 999999) : impl_readSix.f (s6 n) = some (n, true) := by
  unfold impl_readSix.f
  have hz := s6_size n
  rw [if_pos (by omega)]
  have ha : Lib.atoiAll (s6 n).data.toList = .ok n := by
    show Lib.atoiAll (fw 6 n.toNat) = _
    obtain ⟨i1, i2⟩ := fw_dig 6 n.toNat
    have hlt : n.toNat < 1000000 := by omega
    rw [Nat.mod_eq_of_lt (by simpa using hlt)] at i2
    have hl := fw_length 6 n.toNat
    cases hd : fw 6 n.toNat with
    | nil => rw [hd] at hl; simp at hl
    | cons c r =>
      rw [hd] at i1 i2
      have hc : 48 ≤ c.toNat := by rw [List.all_cons, Bool.and_eq_true] at i1; have := i1.1; simp [isDig] at this; omega
      have hp : Lib.parseMag (c :: r) = .ok n.toNat := by
        unfold Lib.parseMag
        rw [if_neg (by simp), parse_ok _ 0 i1 (by rw [i2]; omega), i2]
      rw [Lib.atoiAll_plain c r (by omega) (by omega), hp]
      unfold Lib.signless
      simp only
      rw [if_neg (by omega), Int.toNat_of_nonneg h0]
  rw [ha]
  simp only
  rw [if_pos ⟨h0, h1⟩, six_eq n h0 h1]
  simp
def pres : List ByteArray := [(⟨#[114, 97, 119, 47]⟩ : ByteArray), (⟨#[116, 49, 47]⟩ : ByteArray), (⟨#[116, 50, 47]⟩ : ByteArray)]
theorem pres_at (a : Int) (h : 0 ≤ a ∧ a ≤ 2) : rdOf ByteArray.empty pres a = ⟨(pre3 a).toArray⟩ := by
  have : a = 0 ∨ a = 1 ∨ a = 2 := by omega
  rcases this with rfl | rfl | rfl <;> rfl
theorem impl_key_step (s : ByteArray) (hs : s.size ≤ 1048576) (i : Int) (hi : 0 ≤ i ∧ i ≤ 2) (k : Nat) :
    (∃ b c, impl_readDataKey.l0 (k + 2) s pres 3 i = some (i, b, c, true) ∧ isKey s i b c) ∨ (impl_readDataKey.l0 (k + 2) s pres 3 i = impl_readDataKey.l0 k s pres 3 (i + 1) ∧ ∀ b c, ¬ isKey s i b c) := by
  have hw : wrap64 (i + 1) = i + 1 := by rw [wrap_id (i + 1) (by omega) (by omega)]
  have hl3 : ((pres.length : Nat) : Int) = 3 := rfl
  simp only [impl_readDataKey.l0]
  rw [if_pos (by omega), if_pos (by omega), hl3, if_pos (by omega), pres_at i hi]
  unfold strings_CutPrefix.f
  simp only [Option.bind_some]
  have hkd : ∀ b c, (keyB i b c).data.toList = pre3 i ++ (fw 6 b.toNat ++ [45] ++ fw 6 c.toNat) := fun b c => by
    show pre3 i ++ fw 6 b.toNat ++ [45] ++ fw 6 c.toNat = _
    simp
  have hpre : ∀ r, Lib.hasPrefix (pre3 i ++ r) (pre3 i) = true ∧ Lib.trimPrefix (pre3 i ++ r) (pre3 i) = r := fun r => by
    have h1 : Lib.hasPrefix (pre3 i ++ r) (pre3 i) = true := by unfold Lib.hasPrefix; rw [List.isPrefixOf_iff_prefix]; exact List.prefix_append _ _
    refine ⟨h1, ?_⟩
    unfold Lib.trimPrefix
    rw [if_pos h1, List.drop_left' rfl]
  by_cases hp : Lib.hasPrefix s.data.toList (pre3 i) = true
  · obtain ⟨r, hr⟩ : ∃ r, s.data.toList = pre3 i ++ r := by
      unfold Lib.hasPrefix at hp
      rw [List.isPrefixOf_iff_prefix] at hp
      obtain ⟨r, hr⟩ := hp
      exact ⟨r, hr.symm⟩
    rw [hr, (hpre r).1, (hpre r).2, if_pos rfl, size_mk]
    have hrl : r.length ≤ 1048576 := by
      have : s.size = s.data.toList.length := by rw [Array.length_toList]; rfl
      rw [hr, List.length_append] at this
      omega
    have hno : ∀ q : Bool, (∀ b c, ¬ isKey s i b c) → q = false → impl_readDataKey.j1 (k + 1) s i ⟨r.toArray⟩ pres 3 i q = impl_readDataKey.l0 k s pres 3 (i + 1) := fun q _ hq => by
      subst hq
      simp only [impl_readDataKey.j1]
      rw [if_neg (by simp), hw]
    by_cases h13 : r.length = 13
    · rw [if_pos (by omega), if_pos (by omega)]
      have hb := bt_mk r 6 (by omega)
      rw [show ((6 : Nat) : Int) = 6 from rfl] at hb
      rw [hb]
      by_cases h6 : r[6]'(by omega) = 45
      · have : ((((r[6]'(by omega)).toNat : Nat) : Int) == 45) = true := by rw [h6]; rfl
        rw [this]
        simp only [impl_readDataKey.j1]
        have ex7 : (⟨r.toArray⟩ : ByteArray).extract 7 (⟨r.toArray⟩ : ByteArray).size = ⟨(r.drop 7).toArray⟩ := extract_mk r 7
        rw [if_pos trivial, if_pos (by decide), if_pos (by rw [size_mk]; omega), extract_six, ex7]
        obtain ⟨n1, q1, f1, g1⟩ := readSix_T ⟨(r.take 6).toArray⟩ (by rw [size_mk, List.length_take]; omega)
        obtain ⟨n2, q2, f2, g2⟩ := readSix_T ⟨(r.drop 7).toArray⟩ (by rw [size_mk, List.length_drop]; omega)
        rw [f1]
        simp only [Option.bind_some]
        rw [if_pos (by rw [size_mk]; omega), f2]
        simp only [Option.bind_some]
        have hback : ∀ b c, isKey s i b c → q1 = true ∧ q2 = true := fun b c hk => by
          obtain ⟨_, hb2, hc2, hs2⟩ := hk
          have hrr : r = fw 6 b.toNat ++ [45] ++ fw 6 c.toNat := by
            have := hkd b c
            rw [← hs2, hr] at this
            exact List.append_cancel_left this
          have t6 : r.take 6 = fw 6 b.toNat := by rw [hrr, List.append_assoc, List.take_left' (fw_length 6 _)]
          have d7 : r.drop 7 = fw 6 c.toNat := by rw [hrr]; exact List.drop_left' (by simp [fw_length])
          have c1 := readSix_C b hb2.1 hb2.2
          have c2 := readSix_C c hc2.1 hc2.2
          unfold s6 at c1 c2
          rw [t6, c1] at f1
          rw [d7, c2] at f2
          obtain ⟨_, e1⟩ := Prod.mk.inj (Option.some.inj f1)
          obtain ⟨_, e2⟩ := Prod.mk.inj (Option.some.inj f2)
          exact ⟨e1.symm, e2.symm⟩
        cases q1 with
        | false => exact .inr ⟨by simp [hw], fun b c hk => by have := (hback b c hk).1; cases this⟩
        | true =>
          cases q2 with
          | false => exact .inr ⟨by simp [hw], fun b c hk => by have := (hback b c hk).2; cases this⟩
          | true =>
            refine .inl ⟨n1, n2, by simp, hi, (g1 rfl).1, (g2 rfl).1, ?_⟩
            have e1 : r.take 6 = fw 6 n1.toNat := by
              have := congrArg (fun b : ByteArray => b.data.toList) (g1 rfl).2
              simpa [s6] using this
            have e2 : r.drop 7 = fw 6 n2.toNat := by
              have := congrArg (fun b : ByteArray => b.data.toList) (g2 rfl).2
              simpa [s6] using this
            have hrr : r = fw 6 n1.toNat ++ [45] ++ fw 6 n2.toNat := by
              rw [← e1, ← e2, ← h6]
              have hd := List.drop_eq_getElem_cons (show 6 < r.length by omega)
              rw [List.append_assoc, List.singleton_append, ← hd, List.take_append_drop]
            rw [← mk_data s, hr, hrr, ← hkd n1 n2, mk_data]
      · have hq : ((((r[6]'(by omega)).toNat : Nat) : Int) == 45) = false := by
          rw [beq_eq_false_iff_ne]
          intro e
          apply h6
          apply UInt8.toNat_inj.1
          show _ = 45
          omega
        have hn : ∀ b c, ¬ isKey s i b c := fun b c hk => by
          apply h6
          have hrr : r = fw 6 b.toNat ++ [45] ++ fw 6 c.toNat := by
            have := hkd b c
            rw [← hk.2.2.2, hr] at this
            exact List.append_cancel_left this
          subst hrr
          rw [List.getElem_append_left (by simp [fw_length]), List.getElem_append_right (by simp [fw_length])]
          simp [fw_length]
        exact .inr ⟨by rw [hq, hno false hn rfl], hn⟩
    · have hn : ∀ b c, ¬ isKey s i b c := fun b c hk => by
        apply h13
        have hrr : r = fw 6 b.toNat ++ [45] ++ fw 6 c.toNat := by
          have := hkd b c
          rw [← hk.2.2.2, hr] at this
          exact List.append_cancel_left this
        rw [hrr]
        simp [fw_length]
      rw [if_neg (by omega)]
      exact .inr ⟨hno false hn rfl, hn⟩
  · have hp0 : Lib.hasPrefix s.data.toList (pre3 i) = false := by simpa using hp
    rw [hp0]
    simp only [Bool.false_eq_true, if_false, impl_readDataKey.j1]
    refine .inr ⟨by rw [hw], fun b c hk => hp ?_⟩
    rw [hk.2.2.2, hkd b c]
    exact (hpre _).1
theorem key_same (s : ByteArray) (hs : s.size ≤ 1048576) (k : Nat) (hk : s.size + 62 < k) : ∃ a b c q, spec_l03ToKey.f k s = some (a, b, c, q) ∧ (∃ a' b' c', impl_readDataKey.f k s = some (a', b', c', q) ∧ (q = true → a = a' ∧ b = b' ∧ c = c')) ∧ (q = true → isKey s a b c) := by
  obtain ⟨k, rfl⟩ : ∃ m, k = m + 8 := ⟨k - 8, by omega⟩
  obtain ⟨a, b, c, q, h1, h2⟩ := spec_key_T s hs (k + 7) (by omega)
  have hi : impl_readDataKey.f (k + 8) s = impl_readDataKey.l0 (k + 8) s pres 3 0 := by
    unfold impl_readDataKey.f impl_dataPrefixes.f
    rfl
  refine ⟨a, b, c, q, h1, ?_, h2⟩
  rw [hi]
  have hfound : ∀ i b' c', isKey s i b' c' → q = true ∧ a = i ∧ b = b' ∧ c = c' := fun i b' c' hk => by
    have e := spec_key_C i b' c' hk.1 hk.2.1 hk.2.2.1 (k + 7) (by omega)
    rw [← hk.2.2.2, h1] at e
    simp only [Option.some.injEq, Prod.mk.injEq] at e
    exact ⟨e.2.2.2, e.1, e.2.1, e.2.2.1⟩
  have hend : impl_readDataKey.l0 (k + 2) s pres 3 3 = some (0, 0, 0, false) := by
    simp only [impl_readDataKey.l0]
    rw [if_neg (by decide)]
  rcases impl_key_step s hs 0 (by omega) (k + 6) with ⟨b', c', e, hk0⟩ | ⟨e, n0⟩
  · obtain ⟨hq, _, _, _⟩ := hfound 0 b' c' hk0
    subst hq
    exact ⟨0, b', c', e, fun _ => (hfound 0 b' c' hk0).2⟩
  · rw [e]
    rcases impl_key_step s hs (0 + 1) (by omega) (k + 4) with ⟨b', c', e, hk0⟩ | ⟨e, n1⟩
    · obtain ⟨hq, _, _, _⟩ := hfound _ b' c' hk0
      subst hq
      exact ⟨_, b', c', e, fun _ => (hfound _ b' c' hk0).2⟩
    · rw [e]
      rcases impl_key_step s hs (0 + 1 + 1) (by omega) (k + 2) with ⟨b', c', e, hk0⟩ | ⟨e, n2⟩
      · obtain ⟨hq, _, _, _⟩ := hfound _ b' c' hk0
        subst hq
        exact ⟨_, b', c', e, fun _ => (hfound _ b' c' hk0).2⟩
      · rw [e]
        have hq : q = false := by
          cases q with
          | false => rfl
          | true =>
            exfalso
            have hk0 := h2 rfl
            have : a = 0 ∨ a = 0 + 1 ∨ a = 0 + 1 + 1 := by have := hk0.1; omega
            rcases this with rfl | rfl | rfl
            · exact n0 _ _ hk0
            · exact n1 _ _ hk0
            · exact n2 _ _ hk0
        subst hq
        exact ⟨0, 0, 0, hend, by simp⟩
theorem range_s (a b : Int) : spec_l04Range.f a b = some (decide (0 ≤ a) && (decide (a ≤ b) && decide (b ≤ 100000))) := by
  unfold spec_l04Range.f
  simp only [in_eq, Option.bind_some]
  by_cases h1 : 0 ≤ a <;> by_cases h2 : a ≤ b <;> by_cases h3 : b ≤ 100000 <;> by_cases h4 : a ≤ 100000 <;> first | omega | simp [h1, h2, h3, h4]
theorem range_i (a b : Int) : impl_isRange.f a b = some (decide (0 ≤ a) && (decide (a ≤ b) && decide (b ≤ 100000))) := by
  unfold impl_isRange.f
  by_cases h1 : 0 ≤ a <;> by_cases h2 : a ≤ b <;> by_cases h3 : b ≤ 100000 <;> simp [h1, h2, h3]
theorem tier_entry (x0 x1 x2 x3 x4 : Int) (s : ByteArray) (lo : Int) (hs : s.size ≤ 1048576) (k : Nat) (hk : s.size + 62 < k) :
    ∃ r, impl_entryOK.f k x2 x3 x4 s = some r ∧ spec_l06Tiered.f k x0 x1 x2 x3 x4 s lo = some (r && decide (lo ≤ x2)) ∧ (r = true → 0 ≤ x2 ∧ ∃ a b c, isKey s a b c) := by
  obtain ⟨a, b, c, q, h1, ⟨a', b', c', h2, h3⟩, h4⟩ := key_same s hs k hk
  unfold impl_entryOK.f spec_l06Tiered.f
  rw [h1, h2]
  simp only [Option.bind_some, in_eq, range_s, range_i]
  cases q with
  | false => exact ⟨false, by simp, by simp, by simp⟩
  | true =>
    obtain ⟨rfl, rfl, rfl⟩ := h3 rfl
    have ht := (h4 rfl).1
    by_cases ha : a = x2
    · subst ha
      simp only [if_true]
      have h2 : decide (a ≤ 2) = true := decide_eq_true ht.2
      rw [h2, Bool.and_true]
      have hk2 : 0 ≤ a ∧ ∃ a b c, isKey s a b c := ⟨ht.1, _, _, _, h4 rfl⟩
      cases (decide (0 ≤ x3) && (decide (x3 ≤ x4) && decide (x4 ≤ 100000))) <;> cases decide (x3 < x4) <;> cases decide (lo ≤ a) <;> simp <;> exact hk2
    · simp only [if_true, if_neg ha]
      exact ⟨false, rfl, rfl, by simp⟩
theorem merged_total (c s mn mx f l c' s' mn' mx' f' l' : Int) : ∃ r, spec_l02Merge.f c s mn mx f l c' s' mn' mx' f' l' = some r := by
  unfold spec_l02Merge.f
  by_cases h : c = 0
  · rw [if_pos h]; exact ⟨_, rfl⟩
  · rw [if_neg h]
    by_cases h' : c' = 0
    · rw [if_pos h']; exact ⟨_, rfl⟩
    · rw [if_neg h']; exact ⟨_, rfl⟩
theorem merged_same (c s mn mx f l c' s' mn' mx' f' l' : Int) : impl_Agg_merged.f c s mn mx f l c' s' mn' mx' f' l' = spec_l02Merge.f c s mn mx f l c' s' mn' mx' f' l' := rfl
theorem fold_loops (l : List S75) (hl : l.length ≤ 140737488351232) (a b : Int) (d : Nat) : ∀ (k i : Nat) (n x0 x1 x2 x3 x4 x5 : Int), i ≤ l.length → l.length - i = d → d < k →
    ∃ c m, spec_l04Count.l0 k l n (i : Int) = some c ∧ spec_l04Fold.l0 k l a b (i : Int) x0 x1 x2 x3 x4 x5 = some m ∧
      impl_fold.l0 k a b n l (l.length : Int) (i : Int) x0 x1 x2 x3 x4 x5 = some (if c > 100000 then (0, 0, 0, 0, 0, 0, 6) else (m.1, m.2.1, m.2.2.1, m.2.2.2.1, m.2.2.2.2.1, m.2.2.2.2.2, 0)) := by
  induction d with
  | zero =>
    intro k i n x0 x1 x2 x3 x4 x5 hi hd hk
    obtain ⟨k, rfl⟩ : ∃ m, k = m + 1 := ⟨k - 1, by omega⟩
    have hn : ¬ (i : Int) < (l.length : Int) := by omega
    refine ⟨n, (x0, x1, x2, x3, x4, x5), ?_, ?_, ?_⟩
    · simp only [spec_l04Count.l0]; rw [if_neg hn]
    · simp only [spec_l04Fold.l0]; rw [if_neg hn]
    · simp only [impl_fold.l0]; rw [if_neg hn]
      by_cases h : n > 100000
      · rw [if_pos h, if_pos h]
      · rw [if_neg h, if_neg h]
  | succ d ih =>
    intro k i n x0 x1 x2 x3 x4 x5 hi hd hk
    obtain ⟨k, rfl⟩ : ∃ m, k = m + 1 := ⟨k - 1, by omega⟩
    have hlt : i < l.length := by omega
    have e1 : ((i : Int) < (l.length : Int)) = True := eq_true (by omega)
    have e3 : ((0 : Int) ≤ (i : Int)) = True := eq_true (by omega)
    simp only [spec_l04Count.l0, spec_l04Fold.l0, impl_fold.l0, e1, e3, if_true, cast_wrap hlt (by omega : l.length ≤ 140737488351232), within_eq, in_eq, Option.bind_some, merged_same]
    generalize (rd_T75 l (i : Int)) = e
    cases (decide (a ≤ e.f0) && decide (e.f0 ≤ wrap64 (b - 1))) with
    | false =>
      simp only [Bool.false_eq_true, if_false]
      exact ih k (i + 1) _ x0 x1 x2 x3 x4 x5 (by omega) (by omega) (by omega)
    | true =>
      obtain ⟨m, hm⟩ := merged_total x0 x1 x2 x3 x4 x5 e.f1.f0 e.f1.f1 e.f1.f2 e.f1.f3 e.f1.f4 e.f1.f5
      simp only [if_true, hm, Option.bind_some]
      exact ih k (i + 1) _ _ _ _ _ _ _ (by omega) (by omega) (by omega)
theorem agg_loops (l : List S49) (hl : l.length ≤ 1048576) (d : Nat) : ∀ (k i : Nat) (x0 x1 x2 x3 x4 x5 : Int), i ≤ l.length → l.length - i = d → d < k →
    ∃ m, spec_l02Of.l0 k l (i : Int) x0 x1 x2 x3 x4 x5 = some m ∧ impl_aggOf.l0 k l (l.length : Int) (i : Int) x0 x1 x2 x3 x4 x5 = some m := by
  induction d with
  | zero =>
    intro k i x0 x1 x2 x3 x4 x5 hi hd hk
    obtain ⟨k, rfl⟩ : ∃ m, k = m + 1 := ⟨k - 1, by omega⟩
    have hn : ¬ (i : Int) < (l.length : Int) := by omega
    refine ⟨(x0, x1, x2, x3, x4, x5), ?_, ?_⟩
    · simp only [spec_l02Of.l0]; rw [if_neg hn]
    · simp only [impl_aggOf.l0]; rw [if_neg hn]
  | succ d ih =>
    intro k i x0 x1 x2 x3 x4 x5 hi hd hk
    obtain ⟨k, rfl⟩ : ∃ m, k = m + 1 := ⟨k - 1, by omega⟩
    have hlt : i < l.length := by omega
    have e1 : ((i : Int) < (l.length : Int)) = True := eq_true (by omega)
    have e3 : ((0 : Int) ≤ (i : Int)) = True := eq_true (by omega)
    simp only [spec_l02Of.l0, impl_aggOf.l0, e1, e3, if_true, cast_wrap hlt (by omega : l.length ≤ 140737488351232), merged_same]
    generalize (rd_T49 l (i : Int)) = e
    obtain ⟨m, hm⟩ := merged_total x0 x1 x2 x3 x4 x5 1 e.f1 e.f1 e.f1 e.f1 e.f1
    simp only [hm, Option.bind_some]
    exact ih k (i + 1) _ _ _ _ _ _ (by omega) (by omega) (by omega)
theorem aggof_eq (l : List S49) (hl : l.length ≤ 1048576) (k : Nat) (hk : l.length < k) : ∃ m, spec_l02Of.f k l = some m ∧ impl_aggOf.f k l = some m := agg_loops l hl l.length k 0 0 0 0 0 0 0 (by omega) (by omega) hk
theorem ss_nil : ∀ (k : Nat) (out : List S49) (L : List ByteArray) (i : Int) (r : List S49), spec_l03ToSamples.l0 k out L i = some (r, false) → r = []
  | 0, _, _, _, _, h => by simp [spec_l03ToSamples.l0] at h
  | k + 1, out, L, i, r, h => by
    simp only [spec_l03ToSamples.l0] at h
    split at h
    · split at h
      · obtain ⟨q, _, h⟩ := Option.bind_eq_some_iff.mp h
        repeat' split at h
        all_goals first | (cases h; done) | (cases h; rfl) | exact ss_nil k _ _ _ _ h
      · cases h
    · obtain ⟨q, _, h⟩ := Option.bind_eq_some_iff.mp h
      repeat' split at h
      all_goals first | (cases h; done) | (cases h; rfl)
theorem ss_nil' (k : Nat) (s : ByteArray) (r : List S49) (h : spec_l03ToSamples.f k s = some (r, false)) : r = [] := by
  unfold spec_l03ToSamples.f at h
  simp only [Option.bind_some] at h
  split at h
  · cases h
  · obtain ⟨L, _, h⟩ := Option.bind_eq_some_iff.mp h
    exact ss_nil _ _ _ _ _ h
theorem sb_nil : ∀ (k : Nat) (out : List S75) (L : List ByteArray) (i : Int) (r : List S75), spec_l03ToBuckets.l0 k out L i = some (r, false) → r = []
  | 0, _, _, _, _, h => by simp [spec_l03ToBuckets.l0] at h
  | k + 1, out, L, i, r, h => by
    simp only [spec_l03ToBuckets.l0] at h
    split at h
    · split at h
      · obtain ⟨q, _, h⟩ := Option.bind_eq_some_iff.mp h
        split at h
        · split at h
          · obtain ⟨q1, _, h⟩ := Option.bind_eq_some_iff.mp h
            split at h
            · obtain ⟨q2, _, h⟩ := Option.bind_eq_some_iff.mp h
              repeat' split at h
              all_goals first | (cases h; done) | (cases h; rfl) | exact sb_nil k _ _ _ _ h
            · cases h
          · cases h
        · cases h; rfl
      · cases h
    · obtain ⟨q, _, h⟩ := Option.bind_eq_some_iff.mp h
      split at h
      · cases h
      · cases h; rfl
theorem sb_nil' (k : Nat) (s : ByteArray) (r : List S75) (h : spec_l03ToBuckets.f k s = some (r, false)) : r = [] := by
  unfold spec_l03ToBuckets.f at h
  simp only [Option.bind_some] at h
  split at h
  · cases h
  · obtain ⟨L, _, h⟩ := Option.bind_eq_some_iff.mp h
    exact sb_nil _ _ _ _ _ h
theorem ib_len : ∀ (k : Nat) (out : List S75) (L : List ByteArray) (n i : Int) (r : List S75) (b : Bool), impl_readBuckets.l0 k out L n i = some (r, b) → r.length < out.length + k
  | 0, _, _, _, _, _, _, h => by simp [impl_readBuckets.l0] at h
  | k + 1, out, L, n, i, r, b, h => by
    simp only [impl_readBuckets.l0] at h
    split at h
    · split at h
      · split at h
        · obtain ⟨q1, _, h⟩ := Option.bind_eq_some_iff.mp h
          obtain ⟨q2, _, h⟩ := Option.bind_eq_some_iff.mp h
          obtain ⟨q3, _, h⟩ := Option.bind_eq_some_iff.mp h
          repeat' split at h
          all_goals first
            | (cases h; done)
            | (cases h; simp only [List.length_nil]; omega)
            | (have h3 := ib_len k _ _ _ _ _ _ h; rw [List.length_append] at h3; simp only [List.length_cons, List.length_nil] at h3; omega)
        · cases h
      · cases h
    · obtain ⟨q, _, h⟩ := Option.bind_eq_some_iff.mp h
      cases h
      omega
theorem ib_len' (k : Nat) (s : ByteArray) (r : List S75) (b : Bool) (h : impl_readBuckets.f k s = some (r, b)) : r.length < k := by
  unfold impl_readBuckets.f at h
  obtain ⟨L, _, h⟩ := Option.bind_eq_some_iff.mp h
  have := ib_len k _ _ _ _ _ _ h
  simpa using this
def inW (a b : Int) (x : S49) : Bool := decide (a ≤ x.f0) && decide (x.f0 ≤ wrap64 (b - 1))
theorem sin_loop (l : List S49) (hl : l.length ≤ 1048576) (a b : Int) : ∀ (d k i : Nat) (out : List S49), i + d = l.length → d < k → out.length ≤ i → impl_samplesIn.l0 k a b out l (l.length : Int) (i : Int) = some (out ++ (l.drop i).filter (inW a b))
  | 0, 0, _, _, _, hk, _ => by omega
  | d + 1, 0, _, _, _, hk, _ => by omega
  | 0, k + 1, i, out, hi, _, _ => by
    simp only [impl_samplesIn.l0]
    rw [if_neg (by omega), List.drop_eq_nil_of_le (by omega)]
    simp
  | d + 1, k + 1, i, out, hi, hk, ho => by
    have h : i < l.length := by omega
    simp only [impl_samplesIn.l0]
    rw [if_pos (by omega), if_pos (by omega), if_pos (by omega), rd49_at l i h, within_eq, Option.bind_some, cast_wrap h (by omega), List.drop_eq_getElem_cons h, List.filter_cons, show (decide (a ≤ l[i].f0) && decide (l[i].f0 ≤ wrap64 (b - 1))) = inW a b l[i] from rfl]
    cases hq : inW a b l[i] with
    | true =>
      rw [if_pos rfl, if_pos rfl, if_pos (by omega), sin_loop l hl a b d k (i + 1) _ (by omega) (by omega) (by rw [List.length_append]; simp; omega), List.append_assoc]
      rfl
    | false =>
      rw [if_neg (by decide), if_neg (by decide), sin_loop l hl a b d k (i + 1) _ (by omega) (by omega) (by omega)]
theorem swin_loop (l : List S49) (hl : l.length ≤ 1048576) (a b : Int) (c : Bool) : ∀ (d k i : Nat) (out : List S49), i + d = l.length → out.length ≤ i → spec_l08Window.l0 (k + d + 1) a b l c out (i : Int) = ((spec_l02Of.f k (out ++ (l.drop i).filter (inW a b))).bind fun m => some (m.1, m.2.1, m.2.2.1, m.2.2.2.1, m.2.2.2.2.1, m.2.2.2.2.2, c))
  | 0, k, i, out, hi, _ => by
    rw [show k + 0 + 1 = k + 1 from rfl]
    simp only [spec_l08Window.l0]
    rw [if_neg (by omega), List.drop_eq_nil_of_le (by omega)]
    simp
  | d + 1, k, i, out, hi, ho => by
    have h : i < l.length := by omega
    have ih := fun out' (ho' : out'.length ≤ i + 1) => swin_loop l hl a b c d k (i + 1) out' (by omega) ho'
    rw [show k + (d + 1) + 1 = (k + d + 1) + 1 by omega]
    generalize k + d + 1 = q0 at ih ⊢
    simp only [spec_l08Window.l0]
    rw [if_pos (by omega), if_pos (by omega), rd49_at l i h, in_eq, Option.bind_some, cast_wrap h (by omega), List.drop_eq_getElem_cons h, List.filter_cons, show (decide (a ≤ l[i].f0) && decide (l[i].f0 ≤ wrap64 (b - 1))) = inW a b l[i] from rfl]
    cases hq : inW a b l[i] with
    | true =>
      rw [if_pos rfl, if_pos rfl, if_pos (by omega), ih _ (by rw [List.length_append]; simp; omega), List.append_assoc]
      rfl
    | false =>
      rw [if_neg (by decide), if_neg (by decide), ih _ (by omega)]
theorem agg_mono (l : List S49) (m) (k : Nat) (h : impl_aggOf.f k l = some m) (d : Nat) : impl_aggOf.f (k + d) l = some m := by
  induction d with
  | zero => exact h
  | succ d ih => exact impl_aggOf.mono l (k + d) _ ih
theorem window_same (t f u : Int) (s data : ByteArray) (a b : Int) (hd : data.size ≤ 65536) (k : Nat) (hk : 6 * 65536 + 400 < k) (hk2 : k ≤ 140737488351232) :
    ∃ (m : Int × Int × Int × Int × Int × Int) (c : Bool), spec_l08Window.f k t f u s data a b = some (m.1, m.2.1, m.2.2.1, m.2.2.2.1, m.2.2.2.2.1, m.2.2.2.2.2, c) ∧
      impl_windowOf.f k t f u s data a b = some (if c = true then (m.1, m.2.1, m.2.2.1, m.2.2.2.1, m.2.2.2.2.1, m.2.2.2.2.2, 0) else (0, 0, 0, 0, 0, 0, 17)) := by
  unfold spec_l08Window.f impl_windowOf.f
  by_cases ht : t = 0
  · rw [if_pos ht, if_pos ht]
    obtain ⟨r, r', c, h1, h2, h3⟩ := readsamples_same data (by omega) k (by omega)
    rw [h1, h2]
    simp only [Option.bind_some]
    cases c with
    | false =>
      obtain rfl := ss_nil' k data r h1
      obtain ⟨k', rfl⟩ : ∃ m, k = m + 0 + 1 := ⟨k - 1, by omega⟩
      have hs := swin_loop [] (by simp) a b false 0 k' 0 [] (by simp) (by simp)
      obtain ⟨m, g1, _⟩ := aggof_eq [] (by simp) k' (by simp; omega)
      rw [show ((0 : Nat) : Int) = 0 from rfl] at hs
      refine ⟨m, false, ?_, by simp⟩
      rw [hs]
      simp only [List.drop_nil, List.filter_nil, List.append_nil, g1, Option.bind_some]
    | true =>
      obtain ⟨rfl, hl8⟩ := h3 rfl
      have hin := sin_loop r (by omega) a b r.length k 0 [] (by omega) (by omega) (by simp)
      rw [show ((0 : Nat) : Int) = 0 from rfl, List.nil_append, List.drop_zero] at hin
      have hin : impl_samplesIn.f k r a b = some (r.filter (inW a b)) := hin
      obtain ⟨k', hk'⟩ : ∃ k', k = k' + r.length + 1 := ⟨k - r.length - 1, by omega⟩
      have hfl := List.length_filter_le (inW a b) r
      obtain ⟨m, g1, g2⟩ := aggof_eq (r.filter (inW a b)) (by omega) k' (by omega)
      have hs := swin_loop r (by omega) a b true r.length k' 0 [] (by omega) (by simp)
      rw [show ((0 : Nat) : Int) = 0 from rfl, List.nil_append, List.drop_zero, g1, ← hk'] at hs
      have g3 : impl_aggOf.f k (r.filter (inW a b)) = some m := by
        have := agg_mono _ _ _ g2 (r.length + 1)
        rw [← Nat.add_assoc, ← hk'] at this
        exact this
      refine ⟨m, true, ?_, ?_⟩
      · rw [hs]
        rfl
      · simp only [if_true, hin, g3, Option.bind_some]
  · rw [if_neg ht, if_neg ht]
    obtain ⟨r, r', c, h1, h2, h3⟩ := readbuckets_same data (by omega) k (by omega)
    rw [h1, h2]
    simp only [Option.bind_some]
    cases c with
    | false =>
      obtain rfl := sb_nil' k data r h1
      have hl := ib_len' k data r' false h2
      obtain ⟨c1, m1, _, q2, _⟩ := fold_loops ([] : List S75) (by simp) a b 0 k 0 0 0 0 0 0 0 0 (by simp) (by simp) (by omega)
      have q2 : spec_l04Fold.f k ([] : List S75) a b = some m1 := q2
      obtain ⟨c2, m2, _, _, q5⟩ := fold_loops r' (by omega) a b r'.length k 0 0 0 0 0 0 0 0 (by omega) (by omega) hl
      have q5 : impl_fold.f k r' a b = _ := q5
      rw [q2, q5]
      exact ⟨m1, false, by simp, by simp⟩
    | true =>
      obtain ⟨rfl, hl8⟩ := h3 rfl
      obtain ⟨c1, m1, q1, q2, q3⟩ := fold_loops r (by omega) a b r.length k 0 0 0 0 0 0 0 0 (by omega) (by omega) (by omega)
      have q1 : spec_l04Count.f k r = some c1 := q1
      have q2 : spec_l04Fold.f k r a b = some m1 := q2
      have q3 : impl_fold.f k r a b = _ := q3
      rw [q2, q3]
      simp only [Option.bind_some, if_true, q1]
      refine ⟨m1, decide (c1 ≤ 100000), rfl, ?_⟩
      by_cases hc : c1 > 100000
      · rw [decide_eq_false (by omega)]
        simp [hc]
      · rw [decide_eq_true (by omega)]
        simp [hc]
theorem windowOf_same (t f u : Int) (s data : ByteArray) (a b : Int) (hs : s.size ≤ 1048576) (k : Nat) (hk : 1048576 + 400 < k) (hk2 : k ≤ 140737488351232) :
    ∃ r, spec_WindowOf.f k t f u s data a b = some r ∧ impl_WindowOf.f k t f u s data a b = some r := by
  obtain ⟨r, e1, e2, e3⟩ := tier_entry 0 0 t f u s 0 hs k (by omega)
  have e2' : spec_l06Tiered.f k 0 0 t f u s 0 = some r := by
    rw [e2]
    cases r with
    | false => rfl
    | true => rw [decide_eq_true (e3 rfl).1]; rfl
  have f3 : ∀ b1 b2 b3 c1 c2 c3, impl_first.f k [anyB b1, anyI c1, anyB b2, anyI c2, anyB b3, anyI c3] = some (if b1 = true then c1 else if b2 = true then c2 else if b3 = true then c3 else 0) := by
    obtain ⟨m, rfl⟩ : ∃ m, k = m + 4 := ⟨k - 4, by omega⟩
    exact first3 m
  unfold spec_WindowOf.f impl_WindowOf.f impl_isLong.f shortB
  simp only [e1, e2', range_s, range_i, f3, Option.bind_some, List.any_cons, List.any_nil, Bool.or_false]
  by_cases hl : (data.size : Int) > 65536
  · rw [if_pos hl, decide_eq_false (show ¬ (data.size : Int) ≤ 65536 by omega)]
    exact ⟨_, rfl, by simp⟩
  · rw [if_neg hl, decide_eq_true (show (data.size : Int) ≤ 65536 by omega)]
    obtain ⟨m, c, w1, w2⟩ := window_same t f u s data a b (by omega) k (by omega) hk2
    rw [w1, w2]
    cases r with
    | false => exact ⟨_, rfl, by simp⟩
    | true =>
      cases (decide (0 ≤ a) && (decide (a ≤ b) && decide (b ≤ 100000))) with
      | false => exact ⟨_, rfl, by simp⟩
      | true =>
        cases c with
        | false => exact ⟨_, rfl, by simp⟩
        | true => exact ⟨_, rfl, by simp⟩
theorem FnExactWindowOf : laws_FnExactWindowOf.Pure := by
  intro t f u s data a b _ _ _ hs0 _ _ _
  obtain ⟨k, hk⟩ : ∃ k : Nat, k = 2000000 := ⟨_, rfl⟩
  refine ⟨k, ?_⟩
  unfold laws_FnExactWindowOf.f laws_szEntry.f laws_toEntry.f
  by_cases hd : (data.size : Int) > 1048576
  · rw [if_pos hd]
  rw [if_neg hd]
  have hw : wrap64 (1048576 - (s.size : Int)) = 1048576 - (s.size : Int) := by rw [wrap_id _ (by omega) (by omega)]
  rw [hw]
  by_cases hss : 1048576 - (s.size : Int) < 0
  · simp [hss]
  obtain ⟨⟨r0, r1, r2, r3, r4, r5, r6⟩, h1, h2⟩ := windowOf_same t f u s data a b (by omega) k (by omega) (by omega)
  simp only [if_neg hss, Option.bind_some, h1, h2, eqAgg_same, if_true]

end Go.Proofs.YtleifhnoaaphmaaGreatDoor.Pure
