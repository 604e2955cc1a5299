/- The pure law of FnAgg: what the printed functions compute answers true for every input of the kinds and sizes that the statement gives. -/
import Derived.Test.YteiolcfgaklafaaKinFnAgg
namespace Go.Proofs.Yteiolcfgaklafaa.Pure
open Go.RowKit Go.Proofs.YteiolcfgaklafaaW.PrintWords Go.Proofs.YteiolcfgaklafaaW.PrintLast Go.Proofs.Yteiolcfgaklafaa.XFnAgg
set_option linter.unusedSimpArgs false
set_option linter.unusedVariables false

-- BODY
/-- list places, as the printed loops spell them -/
theorem cast_wrap {i n : Nat} (h : i < n) (hn : n ≤ 140737488351232) : wrap64 ((i : Int) + 1) = ((i + 1 : Nat) : Int) := by unfold wrap64; omega
theorem take_set_succ {α : Type} (l : List α) (i : Nat) (v : α) (h : i < l.length) : (l.set i v).take (i + 1) = l.take i ++ [v] := by
  rw [List.take_succ_eq_append_getElem (by simpa using h)]
  simp only [List.take_set, List.getElem_set_self]
  rw [List.set_eq_of_length_le (by simp; omega)]
theorem wrap_id (n : Int) (h0 : -9223372036854775808 ≤ n) (h1 : n ≤ 9223372036854775807) : wrap64 n = n := by
  unfold wrap64
  omega
/-- bytes, as they are handed in -/
def Bytes (c : List Int) : Prop := ∀ y ∈ c, 0 ≤ y ∧ y ≤ 255
theorem bytes_of {c : List Int} (h : ∀ y ∈ c, (Lit.int .u8 y).wf = true) : Bytes c := by
  intro y hy
  have := h y hy
  unfold Lit.wf at this
  rw [Bool.and_eq_true, decide_eq_true_eq, decide_eq_true_eq] at this
  have h1 : IntKind.u8.min = 0 := by decide
  have h2 : IntKind.u8.max = 255 := by decide
  omega
theorem rd_byte {c : List Int} (h : Bytes c) (i : Int) : 0 ≤ rd c i ∧ rd c i ≤ 255 := by
  unfold rd
  by_cases hi : i.toNat < c.length
  · rw [List.getD_eq_getElem?_getD, List.getElem?_eq_getElem hi]
    exact h _ (List.getElem_mem hi)
  · rw [List.getD_eq_getElem?_getD, List.getElem?_eq_none (by omega)]
    exact ⟨Int.le_refl _, by decide⟩
theorem tmod_in (x m : Int) (h0 : 0 ≤ x) (h1 : 0 < m) : 0 ≤ Int.tmod x m ∧ Int.tmod x m < m := by
  rw [Int.tmod_eq_emod_of_nonneg h0]
  exact ⟨Int.emod_nonneg _ (by omega), Int.emod_lt_of_pos _ h1⟩
/-- a byte is drawn -/
theorem byte_ok {c : List Int} (hc : Bytes c) (p s : Int) (hp : 0 ≤ p) (hp1 : p ≤ 100000) (hs : 0 ≤ s) (hs1 : s < 2147483648) : ∃ v s', spec_l00Src_byte.f c p s = some (v, p + 1, s') ∧ 0 ≤ v ∧ v ≤ 255 ∧ 0 ≤ s' ∧ s' < 2147483648 := by
  unfold spec_l00Src_byte.f
  rw [if_pos ⟨hp, by omega⟩]
  obtain ⟨b0, b1⟩ := rd_byte hc p
  by_cases hl : p + 1 ≤ (c.length : Int)
  · rw [if_pos hl, wrap_id (rd c p) (by omega) (by omega), wrap_id (s * 31) (by omega) (by omega), wrap_id (s * 31 + rd c p) (by omega) (by omega), wrap_id (s * 31 + rd c p + 7) (by omega) (by omega)]
    obtain ⟨h1, h2⟩ := tmod_in (s * 31 + rd c p + 7) 2147483648 (by omega) (by omega)
    exact ⟨_, _, rfl, b0, b1, h1, h2⟩
  · rw [if_neg hl]
    by_cases hl2 : p + 1 > 3000
    · rw [if_pos hl2]
      exact ⟨_, _, rfl, by omega, by omega, hs, hs1⟩
    · rw [if_neg hl2, wrap_id (s * 1103515245) (by omega) (by omega), wrap_id (s * 1103515245 + 12345) (by omega) (by omega)]
      obtain ⟨h1, h2⟩ := tmod_in (s * 1103515245 + 12345) 2147483648 (by omega) (by omega)
      generalize Int.tmod (s * 1103515245 + 12345) 2147483648 = t at *
      have h3 : 0 ≤ Int.tdiv t 65536 ∧ Int.tdiv t 65536 ≤ 32768 := by
        rw [Int.tdiv_eq_ediv_of_nonneg h1]
        omega
      rw [wrap_id (Int.tdiv t 65536) (by omega) (by omega)]
      obtain ⟨h4, h5⟩ := tmod_in (Int.tdiv t 65536) 256 (by omega) (by omega)
      exact ⟨_, _, rfl, h4, by omega, h1, h2⟩
/-- one of n is drawn -/
theorem next_ok {c : List Int} (hc : Bytes c) (p s n : Int) (hp : 0 ≤ p) (hp1 : p ≤ 100000) (hs : 0 ≤ s) (hs1 : s < 2147483648) (hn : 2 ≤ n) (hn1 : n ≤ 256) : ∃ v s', spec_l00Src_next.f c p s n = some (v, p + 1, s') ∧ 0 ≤ v ∧ v < n ∧ 0 ≤ s' ∧ s' < 2147483648 := by
  obtain ⟨v, s', h, h0, h1, h2, h3⟩ := byte_ok hc p s hp hp1 hs hs1
  unfold spec_l00Src_next.f
  rw [if_neg (by omega), if_pos hn1, h]
  simp only [Option.bind_some]
  rw [if_neg (by omega)]
  obtain ⟨h4, h5⟩ := tmod_in v n h0 (by omega)
  exact ⟨_, _, rfl, h4, h5, h2, h3⟩
theorem source_eq (c : List Int) : spec_l00Source.f c = some (c, 0, (c.length : Int) % 1000) := rfl
/-- a choice that bytes make -/
theorem at_ok {c : List Int} (hc : Bytes c) (hl : c.length ≤ 140737488351232) (i n : Int) (hi : 0 ≤ i) (hi1 : i ≤ 1000) (hn : 1 ≤ n) (hn1 : n ≤ 100000) : ∃ v, laws_at.f c i n = some v ∧ 0 ≤ v ∧ v < n := by
  unfold laws_at.f
  by_cases h1 : n ≤ 1
  · rw [if_pos h1]; exact ⟨_, rfl, by omega, by omega⟩
  · rw [if_neg h1]
    by_cases h2 : (c.length : Int) = 0
    · rw [if_pos h2, if_neg (by omega), wrap_id (i * 7) (by omega) (by omega)]
      obtain ⟨h4, h5⟩ := tmod_in (i * 7) n (by omega) (by omega)
      exact ⟨_, rfl, h4, h5⟩
    · rw [if_neg h2, wrap_id (i + 1) (by omega) (by omega)]
      obtain ⟨a0, a1⟩ := tmod_in i (c.length : Int) (by omega) (by omega)
      obtain ⟨a2, a3⟩ := tmod_in (i + 1) (c.length : Int) (by omega) (by omega)
      rw [if_pos a0, if_pos a1, if_pos a2, if_pos a3, if_neg (by omega)]
      obtain ⟨b0, b1⟩ := rd_byte hc (Int.tmod i (c.length : Int))
      obtain ⟨b2, b3⟩ := rd_byte hc (Int.tmod (i + 1) (c.length : Int))
      generalize rd c (Int.tmod i (c.length : Int)) = x at *
      generalize rd c (Int.tmod (i + 1) (c.length : Int)) = y at *
      have h3 : 0 ≤ Int.tdiv i (c.length : Int) ∧ Int.tdiv i (c.length : Int) ≤ i := by
        rw [Int.tdiv_eq_ediv_of_nonneg hi]
        exact ⟨Int.ediv_nonneg hi (by omega), Int.ediv_le_self _ hi⟩
      generalize Int.tdiv i (c.length : Int) = z at *
      rw [wrap_id x (by omega) (by omega), wrap_id y (by omega) (by omega), wrap_id z (by omega) (by omega), wrap_id (x * 31) (by omega) (by omega), wrap_id (x * 31 + y) (by omega) (by omega), wrap_id (x * 31 + y + z) (by omega) (by omega)]
      obtain ⟨h4, h5⟩ := tmod_in (x * 31 + y + z) n (by omega) (by omega)
      exact ⟨_, rfl, h4, h5⟩
theorem rd94_at (l : List S94) (i : Nat) (h : i < l.length) : rd_T94 l (i : Int) = l[i] := by
  unfold rd_T94; rw [Int.toNat_natCast, List.getD_eq_getElem?_getD, List.getElem?_eq_getElem h]; rfl
theorem first2 (k : Nat) (b1 b2 : Bool) (c1 c2 : Int) : impl_first.f (k + 3) [anyB b1, anyI c1, anyB b2, anyI c2] = some (if b1 = true then c1 else if b2 = true then c2 else 0) := by
  have w1 : wrap64 1 = 1 := by unfold wrap64; omega
  have w2 : wrap64 2 = 2 := by unfold wrap64; omega
  have w3 : wrap64 3 = 3 := by unfold wrap64; omega
  have w4 : wrap64 4 = 4 := by unfold wrap64; omega
  have w5 : wrap64 5 = 5 := by unfold wrap64; omega
  cases b1 <;> cases b2 <;> simp [impl_first.f, impl_first.l0, w1, w2, w3, w4, w5, rdOf, anyAsB, anyAsI]
theorem first3 (k : Nat) (b1 b2 b3 : Bool) (c1 c2 c3 : Int) : impl_first.f (k + 4) [anyB b1, anyI c1, anyB b2, anyI c2, anyB b3, anyI c3] = some (if b1 = true then c1 else if b2 = true then c2 else if b3 = true then c3 else 0) := by
  have w1 : wrap64 1 = 1 := by unfold wrap64; omega
  have w2 : wrap64 2 = 2 := by unfold wrap64; omega
  have w3 : wrap64 3 = 3 := by unfold wrap64; omega
  have w4 : wrap64 4 = 4 := by unfold wrap64; omega
  have w5 : wrap64 5 = 5 := by unfold wrap64; omega
  have w6 : wrap64 6 = 6 := by unfold wrap64; omega
  have w7 : wrap64 7 = 7 := by unfold wrap64; omega
  cases b1 <;> cases b2 <;> cases b3 <;> simp [impl_first.f, impl_first.l0, w1, w2, w3, w4, w5, w6, w7, rdOf, anyAsB, anyAsI]
/-- a right aggregate, in plain words -/
def aggB (c s mn mx f l : Int) : Bool := (c == 0 && s == 0 && mn == 0 && mx == 0 && f == 0 && l == 0) ||
  (decide (1 ≤ c) && decide (c ≤ 100000) && decide (-1000000 ≤ mn) && decide (mn ≤ 1000000) && decide (-1000000 ≤ mx) && decide (mx ≤ 1000000) && decide (mn ≤ f) && decide (f ≤ mx) && decide (mn ≤ l) && decide (l ≤ mx) && decide (c * mn ≤ s) && decide (s ≤ c * mx))
theorem within_eq (a b c : Int) : impl_within.f a b c = some (decide (b ≤ a) && decide (a ≤ c)) := by
  unfold impl_within.f; by_cases h : b ≤ a <;> simp [h]
theorem in_eq (a b c : Int) : spec_l01In.f a b c = some (decide (b ≤ a) && decide (a ≤ c)) := by
  unfold spec_l01In.f; by_cases h : b ≤ a <;> simp [h]
theorem mul_small {c m : Int} (h1 : 1 ≤ c) (h2 : c ≤ 100000) (h3 : -1000000 ≤ m) (h4 : m ≤ 1000000) : wrap64 (c * m) = c * m := by
  have a : c * m ≤ 100000 * 1000000 := by
    rcases Int.lt_or_le m 0 with h | h
    · have : c * m ≤ 0 := Int.mul_nonpos_of_nonneg_of_nonpos (by omega) (by omega)
      omega
    · exact Int.mul_le_mul h2 h4 h (by omega)
  have b : -(100000 * 1000000) ≤ c * m := by
    have h5 : c * (-m) ≤ 100000 * 1000000 := by
      rcases Int.lt_or_le (-m) 0 with h | h
      · have : c * (-m) ≤ 0 := Int.mul_nonpos_of_nonneg_of_nonpos (by omega) (by omega)
        omega
      · exact Int.mul_le_mul h2 (by omega) h (by omega)
    rw [Int.mul_neg] at h5
    omega
  unfold wrap64; omega
theorem impl_agg (c s mn mx f l : Int) : impl_AggOK.f c s mn mx f l = some (aggB c s mn mx f l) := by
  unfold impl_AggOK.f aggB impl_isValue.f
  simp only [within_eq, Option.bind_some]
  by_cases hc : c = 0
  · subst hc
    by_cases h : s = 0 ∧ mn = 0 ∧ mx = 0 ∧ f = 0 ∧ l = 0
    · obtain ⟨rfl, rfl, rfl, rfl, rfl⟩ := h; simp
    · have e : ((0 : Int) == 0 && (s == 0 && (mn == 0 && (mx == 0 && (f == 0 && (l == 0)))))) = false := by
        rw [Bool.eq_false_iff]; intro h'; apply h; simpa using h'
      have e2 : ((0 : Int) == 0 && s == 0 && mn == 0 && mx == 0 && f == 0 && l == 0) = false := by rw [← e]; simp [Bool.and_assoc]
      rw [e, e2]; simp
  · have hc' : (c == 0) = false := by simp [hc]
    rw [hc']
    simp only [Bool.false_and, Bool.false_eq_true, if_false, Bool.false_or]
    by_cases h1 : 1 ≤ c <;> by_cases h2 : c ≤ 100000 <;> simp only [h1, h2, decide_true, decide_false, Bool.and_true, Bool.true_and, Bool.and_false, Bool.false_and, if_true, if_false, Bool.false_eq_true]
    by_cases h3 : -1000000 ≤ mn <;> by_cases h4 : mn ≤ 1000000 <;> simp only [h3, h4, decide_true, decide_false, Bool.and_true, Bool.true_and, Bool.and_false, Bool.false_and, if_true, if_false, Bool.false_eq_true]
    by_cases h5 : -1000000 ≤ mx <;> by_cases h6 : mx ≤ 1000000 <;> simp only [h5, h6, decide_true, decide_false, Bool.and_true, Bool.true_and, Bool.and_false, Bool.false_and, if_true, if_false, Bool.false_eq_true]
    rw [mul_small h1 h2 h3 h4, mul_small h1 h2 h5 h6]
    by_cases h7 : mn ≤ f <;> by_cases h8 : f ≤ mx <;> by_cases h9 : mn ≤ l <;> by_cases h10 : l ≤ mx <;> simp [h7, h8, h9, h10]
theorem agg_bounds {c s mn mx f l : Int} (h : aggB c s mn mx f l = true) : 0 ≤ c ∧ c ≤ 100000 ∧ -100000000000 ≤ s ∧ s ≤ 100000000000 ∧ -1000000 ≤ mn ∧ mn ≤ 1000000 ∧ -1000000 ≤ mx ∧ mx ≤ 1000000 ∧ -1000000 ≤ f ∧ f ≤ 1000000 ∧ -1000000 ≤ l ∧ l ≤ 1000000 := by
  unfold aggB at h
  simp only [Bool.or_eq_true, Bool.and_eq_true, beq_iff_eq, decide_eq_true_eq] at h
  rcases h with ⟨⟨⟨⟨⟨rfl, rfl⟩, rfl⟩, rfl⟩, rfl⟩, rfl⟩ | ⟨⟨⟨⟨⟨⟨⟨⟨⟨⟨⟨h1, h2⟩, h3⟩, h4⟩, h5⟩, h6⟩, h7⟩, h8⟩, h9⟩, h10⟩, h11⟩, h12⟩
  · decide
  · have a1 := mul_small h1 h2 h3 h4
    have a2 := mul_small h1 h2 h5 h6
    have b1 : -(100000 * 1000000) ≤ c * mn := by
      have h5' : c * (-mn) ≤ 100000 * 1000000 := by
        rcases Int.lt_or_le (-mn) 0 with h | h
        · have : c * (-mn) ≤ 0 := Int.mul_nonpos_of_nonneg_of_nonpos (by omega) (by omega)
          omega
        · exact Int.mul_le_mul h2 (by omega) h (by omega)
      rw [Int.mul_neg] at h5'
      omega
    have b2 : c * mx ≤ 100000 * 1000000 := by
      rcases Int.lt_or_le mx 0 with h | h
      · have : c * mx ≤ 0 := Int.mul_nonpos_of_nonneg_of_nonpos (by omega) (by omega)
        omega
      · exact Int.mul_le_mul h2 h6 h (by omega)
    omega
/-- a right sample -/
def smp (x : S94) : Bool := (decide (0 ≤ x.f0) && decide (x.f0 ≤ 99999)) && (decide (-1000000 ≤ x.f1) && decide (x.f1 ≤ 1000000))
/-- right samples from place i on: each is right, and later than the one ahead of it -/
def rise (l : List S94) (i : Nat) : Bool := (List.range l.length).all fun j => decide (j < i) || (smp (l.getD j z94) && (decide (j = 0) || decide ((l.getD (j - 1) z94).f0 < (l.getD j z94).f0)))
theorem rise_end (l : List S94) : rise l l.length = true := by
  unfold rise
  rw [List.all_eq_true]
  intro j hj
  simp [List.mem_range.1 hj]
theorem rise_step (l : List S94) (i : Nat) (h : i < l.length) : rise l i = ((smp l[i] && (decide (i = 0) || decide ((l.getD (i - 1) z94).f0 < l[i].f0))) && rise l (i + 1)) := by
  have e : l.getD i z94 = l[i] := by rw [List.getD_eq_getElem?_getD, List.getElem?_eq_getElem h]; rfl
  rw [Bool.eq_iff_iff]
  unfold rise
  rw [Bool.and_eq_true, List.all_eq_true, List.all_eq_true]
  constructor
  · intro hh
    refine ⟨?_, fun j hj => ?_⟩
    · have := hh i (List.mem_range.2 h)
      rw [e] at this
      simpa using this
    · by_cases hji : j < i + 1
      · simp [hji]
      · have h1 : ¬ j < i := by omega
        have := hh j hj
        simp only [h1, hji, decide_false, Bool.false_or] at *
        exact this
  · rintro ⟨h1, h2⟩ j hj
    by_cases hji : j < i
    · simp [hji]
    · by_cases hje : j = i
      · subst hje; rw [e]; simpa using h1
      · have := h2 j hj
        have hn : ¬ j < i + 1 := by omega
        simp only [hn, decide_false, Bool.false_or] at this
        simp only [hji, decide_false, Bool.false_or]
        exact this
theorem sok_loops (l : List S94) (hl : l.length ≤ 1048576) (d : Nat) : ∀ (k i : Nat), i ≤ l.length → l.length - i = d → d < k →
    spec_SamplesOK.l0 k l (i : Int) = some (rise l i) ∧ impl_SamplesOK.l0 k l l (l.length : Int) (i : Int) = some (rise l i) := by
  induction d with
  | zero =>
    intro k i hi hd hk
    obtain ⟨k, rfl⟩ : ∃ m, k = m + 1 := ⟨k - 1, by omega⟩
    obtain rfl : i = l.length := by omega
    simp only [spec_SamplesOK.l0, impl_SamplesOK.l0]
    rw [if_neg (by omega), if_neg (by omega), rise_end]
    exact ⟨rfl, rfl⟩
  | succ d ih =>
    intro k i hi hd hk
    obtain ⟨k, rfl⟩ : ∃ m, k = m + 1 := ⟨k - 1, by omega⟩
    have hlt : i < l.length := by omega
    obtain ⟨h1, h2⟩ := ih k (i + 1) (by omega) (by omega) (by omega)
    have e1 : ((i : Int) < (l.length : Int)) = True := eq_true (by omega)
    have e3 : ((0 : Int) ≤ (i : Int)) = True := eq_true (by omega)
    simp only [spec_SamplesOK.l0, impl_SamplesOK.l0, spec_l02Sample.f, impl_isMoment.f, impl_isValue.f, within_eq, in_eq, Option.bind_some, e1, e3, if_true]
    rw [rd94_at l i hlt, cast_wrap hlt (by omega), h1, h2, rise_step l i hlt]
    rcases Nat.eq_zero_or_pos i with h0 | h0
    · subst h0
      unfold smp
      cases (decide (0 ≤ l[0].f0) && decide (l[0].f0 ≤ 99999)) <;> cases (decide (-1000000 ≤ l[0].f1) && decide (l[0].f1 ≤ 1000000)) <;> simp
    · have hw : wrap64 ((i : Int) - 1) = ((i - 1 : Nat) : Int) := by unfold wrap64; omega
      have hp : ((i : Int) > 0) = True := eq_true (by omega)
      have hz : (0 : Int) ≤ ((i - 1 : Nat) : Int) := by omega
      have hq : ((i - 1 : Nat) : Int) < (l.length : Int) := by omega
      have hi0 : decide (i = 0) = false := decide_eq_false (by omega)
      have e1 : rd_T94 l ((i - 1 : Nat) : Int) = l.getD (i - 1) z94 := by unfold rd_T94; rw [Int.toNat_natCast]
      rw [hw, e1, hi0, Bool.false_or]
      simp only [hp, if_true, if_pos hz, if_pos hq]
      unfold smp
      generalize (l.getD (i - 1) z94).f0 = p
      generalize l[i].f0 = q
      generalize (decide (-1000000 ≤ l[i].f1) && decide (l[i].f1 ≤ 1000000)) = b
      generalize (decide (0 ≤ q) && decide (q ≤ 99999)) = a
      generalize rise l (i + 1) = r
      by_cases hpq : p < q
      · have e2 : ¬ p ≥ q := by omega
        have e3 : ¬ q ≤ p := by omega
        cases a <;> cases b <;> simp [hpq, e3]
      · have e2 : p ≥ q := by omega
        cases a <;> cases b <;> simp [hpq, e2]
def sokB (l : List S94) : Bool := !decide ((l.length : Int) > 4096) && rise l 0
theorem sok_eq (l : List S94) (hl : l.length ≤ 1048576) (k : Nat) (hk : l.length < k) : spec_SamplesOK.f k l = some (sokB l) ∧ impl_SamplesOK.f k l = some (sokB l) := by
  obtain ⟨h1, h2⟩ := sok_loops l hl l.length k 0 (by omega) (by omega) hk
  unfold spec_SamplesOK.f impl_SamplesOK.f impl_Sample.f sokB
  simp only [Option.bind_some]
  have e : ((0 : Nat) : Int) = 0 := rfl
  rw [e] at h1 h2
  rw [h1, h2]
  by_cases h : (l.length : Int) > 4096
  · simp [h]
  · simp [h]
theorem merged_total (c s mn mx f l c' s' mn' mx' f' l' : Int) : ∃ r, spec_l02Merge.f c s mn mx f l c' s' mn' mx' f' l' = some r := by
  unfold spec_l02Merge.f
  by_cases h : c = 0
  · rw [if_pos h]; exact ⟨_, rfl⟩
  · rw [if_neg h]
    by_cases h' : c' = 0
    · rw [if_pos h']; exact ⟨_, rfl⟩
    · rw [if_neg h']; exact ⟨_, rfl⟩
theorem merged_same (c s mn mx f l c' s' mn' mx' f' l' : Int) : impl_Agg_merged.f c s mn mx f l c' s' mn' mx' f' l' = spec_l02Merge.f c s mn mx f l c' s' mn' mx' f' l' := rfl
theorem agg_loops (l : List S94) (hl : l.length ≤ 1048576) (d : Nat) : ∀ (k i : Nat) (x0 x1 x2 x3 x4 x5 : Int), i ≤ l.length → l.length - i = d → d < k →
    ∃ m, spec_l02Of.l0 k l (i : Int) x0 x1 x2 x3 x4 x5 = some m ∧ impl_aggOf.l0 k l (l.length : Int) (i : Int) x0 x1 x2 x3 x4 x5 = some m := by
  induction d with
  | zero =>
    intro k i x0 x1 x2 x3 x4 x5 hi hd hk
    obtain ⟨k, rfl⟩ : ∃ m, k = m + 1 := ⟨k - 1, by omega⟩
    have hn : ¬ (i : Int) < (l.length : Int) := by omega
    refine ⟨(x0, x1, x2, x3, x4, x5), ?_, ?_⟩
    · simp only [spec_l02Of.l0]; rw [if_neg hn]
    · simp only [impl_aggOf.l0]; rw [if_neg hn]
  | succ d ih =>
    intro k i x0 x1 x2 x3 x4 x5 hi hd hk
    obtain ⟨k, rfl⟩ : ∃ m, k = m + 1 := ⟨k - 1, by omega⟩
    have hlt : i < l.length := by omega
    have e1 : ((i : Int) < (l.length : Int)) = True := eq_true (by omega)
    have e3 : ((0 : Int) ≤ (i : Int)) = True := eq_true (by omega)
    simp only [spec_l02Of.l0, impl_aggOf.l0, e1, e3, if_true, cast_wrap hlt (by omega : l.length ≤ 140737488351232), merged_same]
    generalize (rd_T94 l (i : Int)) = e
    obtain ⟨m, hm⟩ := merged_total x0 x1 x2 x3 x4 x5 1 e.f1 e.f1 e.f1 e.f1 e.f1
    simp only [hm, Option.bind_some]
    exact ih k (i + 1) _ _ _ _ _ _ (by omega) (by omega) (by omega)
theorem aggof_eq (l : List S94) (hl : l.length ≤ 1048576) (k : Nat) (hk : l.length < k) : ∃ m, spec_l02Of.f k l = some m ∧ impl_aggOf.f k l = some m := agg_loops l hl l.length k 0 0 0 0 0 0 0 (by omega) (by omega) hk
/-- samples whose times rise, from a time on and below another -/
def Run (lo hi : Int) (L : List S94) : Prop := L.Pairwise (fun a b => a.f0 < b.f0) ∧ ∀ x ∈ L, lo ≤ x.f0 ∧ x.f0 < hi ∧ -1000000 ≤ x.f1 ∧ x.f1 ≤ 1000000
theorem samples_loop {c : List Int} (hc : Bytes c) : ∀ (d k : Nat) (x1 : Int) (x7 : List S94) (p s : Int), d < k → 0 ≤ x1 → x1 + 4 * d ≤ 90000 → x7.length + d ≤ 100 → 0 ≤ p → p + 4 * d ≤ 90000 → 0 ≤ s → s < 2147483648 →
    ∃ L p' s', spec_l00Src_samples.l0 k x1 x7 (d : Int) c p s = some (x7 ++ L, p', s') ∧ L.length = d ∧ Run x1 (x1 + 4 * d) L
  | 0, k, x1, x7, p, s, hk, h1, h2, h3, h4, h5, h6, h7 => by
    obtain ⟨k, rfl⟩ : ∃ m, k = m + 1 := ⟨k - 1, by omega⟩
    refine ⟨[], p, s, ?_, rfl, .nil, by simp⟩
    simp only [spec_l00Src_samples.l0, List.append_nil]
    rw [if_neg (by omega)]
  | d + 1, k, x1, x7, p, s, hk, h1, h2, h3, h4, h5, h6, h7 => by
    obtain ⟨k, rfl⟩ : ∃ m, k = m + 1 := ⟨k - 1, by omega⟩
    obtain ⟨v1, s1, e1, a1, b1, c1, d1⟩ := next_ok hc p s 4 h4 (by omega) h6 h7 (by decide) (by decide)
    obtain ⟨v2, s2, e2, a2, b2, c2, d2⟩ := next_ok hc (p + 1) s1 40 (by omega) (by omega) c1 d1 (by decide) (by decide)
    obtain ⟨v3, s3, e3, a3, b3, c3, d3⟩ := next_ok hc (p + 1 + 1) s2 12 (by omega) (by omega) c2 d2 (by decide) (by decide)
    obtain ⟨v4, s4, e4, a4, b4, c4, d4⟩ := next_ok hc (p + 1 + 1 + 1) s3 2 (by omega) (by omega) c3 d3 (by decide) (by decide)
    have t1 : wrap64 (x1 + v1) = x1 + v1 := wrap_id _ (by omega) (by omega)
    have t2 : wrap64 (x1 + v1 + 1) = x1 + v1 + 1 := wrap_id _ (by omega) (by omega)
    have t3 : wrap64 (v2 - 10) = v2 - 10 := wrap_id _ (by omega) (by omega)
    have t4 : wrap64 (((d + 1 : Nat) : Int) - 1) = (d : Int) := by rw [wrap_id _ (by omega) (by omega)]; omega
    have q : ∃ i : Int, wrap64 (wrap64 (Int.tdiv v3 10) * wrap64 (1 + v4)) = i ∧ (i = 0 ∨ i = 1 ∨ i = 2) := by
      refine ⟨_, rfl, ?_⟩
      have : Int.tdiv v3 10 = 0 ∨ Int.tdiv v3 10 = 1 := by rw [Int.tdiv_eq_ediv_of_nonneg a3]; omega
      have : v4 = 0 ∨ v4 = 1 := by omega
      rcases ‹Int.tdiv v3 10 = 0 ∨ _› with h | h <;> rcases this with rfl | rfl <;> rw [h] <;> (unfold wrap64; omega)
    obtain ⟨i, hi, hi2⟩ := q
    obtain ⟨w, hw⟩ : ∃ w, rd [v2 - 10, 1000000, -1000000] i = w := ⟨_, rfl⟩
    have hw2 : -1000000 ≤ w ∧ w ≤ 1000000 := by
      rcases hi2 with rfl | rfl | rfl
      · have : w = v2 - 10 := hw.symm
        omega
      · have : w = 1000000 := hw.symm
        omega
      · have : w = -1000000 := hw.symm
        omega
    obtain ⟨L, p', s', hL, hlen, hr1, hr2⟩ := samples_loop hc d k (x1 + v1 + 1) (x7 ++ [⟨x1 + v1, w⟩]) (p + 1 + 1 + 1 + 1) s4 (by omega) (by omega) (by omega) (by simp; omega) (by omega) (by omega) c4 d4
    refine ⟨⟨x1 + v1, w⟩ :: L, p', s', ?_, by simp [hlen], ?_, ?_⟩
    · have e5 : (((d + 1 : Nat) : Int) > 0) = True := eq_true (by omega)
      have e6 : (0 ≤ i) = True := eq_true (by omega)
      have e7 : (i < ((3 : Nat) : Int)) = True := eq_true (by omega)
      have e8 : (x7.length < 8796093022208) = True := eq_true (by omega)
      have e9 : [v2 - 10, 1000000, -1000000].length = 3 := rfl
      simp only [spec_l00Src_samples.l0, e1, e2, e3, e4, Option.bind_some, t1, t2, t3, t4, hi, hw, e5, e6, e7, e8, e9, if_true, hL, List.append_assoc, List.cons_append, List.nil_append]
    · refine List.pairwise_cons.2 ⟨fun x hx => ?_, hr1⟩
      have := hr2 x hx
      show x1 + v1 < x.f0
      omega
    · intro x hx
      rcases List.mem_cons.1 hx with rfl | hx
      · exact ⟨by show x1 ≤ x1 + v1; omega, by show x1 + v1 < _; omega, hw2⟩
      · have := hr2 x hx
        omega
theorem samplesOf_ok {c : List Int} (hc : Bytes c) (k : Nat) (hk : 8 < k) (a : Int) (h0 : 0 ≤ a) (h1 : a ≤ 1000) : ∃ L, spec_SamplesOf.f k c a 8 = some L ∧ L.length ≤ 8 ∧ Run a (a + 32) L := by
  unfold spec_SamplesOf.f spec_l00Src_samples.f
  simp only [source_eq, Option.bind_some]
  obtain ⟨v1, s1, e1, a1, b1, c1, d1⟩ := next_ok hc 0 ((c.length : Int) % 1000) 9 (by decide) (by decide) (by omega) (by omega) (by decide) (by decide)
  have w9 : wrap64 (8 + 1) = 9 := by unfold wrap64; omega
  rw [w9, e1]
  simp only [Option.bind_some]
  obtain ⟨d, rfl⟩ : ∃ d : Nat, v1 = (d : Int) := ⟨v1.toNat, by omega⟩
  obtain ⟨L, p', s', hL, hlen, hr1, hr2⟩ := samples_loop hc d k a [] (0 + 1) s1 (by omega) h0 (by omega) (by simp; omega) (by decide) (by omega) c1 d1
  rw [hL]
  refine ⟨L, rfl, by omega, hr1, fun x hx => ?_⟩
  have := hr2 x hx
  omega
/-- right samples, not many -/
def Good (L : List S94) : Prop := L.length ≤ 16 ∧ Run 0 99999 L
theorem good_sub {L M : List S94} (h : Good L) (s : M.Sublist L) : Good M :=
  ⟨Nat.le_trans s.length_le h.1, h.2.1.sublist s, fun x hx => h.2.2 x (s.subset hx)⟩
theorem good_sok {L : List S94} (h : Good L) : sokB L = true := by
  obtain ⟨h1, h2, h3⟩ := h
  unfold sokB
  rw [Bool.and_eq_true]
  refine ⟨by simp; omega, ?_⟩
  unfold rise
  rw [List.all_eq_true]
  intro j hj
  have hj := List.mem_range.1 hj
  have e : L.getD j z94 = L[j] := by rw [List.getD_eq_getElem?_getD, List.getElem?_eq_getElem hj]; rfl
  have hx := h3 L[j] (List.getElem_mem hj)
  have hs : smp L[j] = true := by
    unfold smp
    simp only [Bool.and_eq_true, decide_eq_true_eq]
    omega
  rw [e, hs]
  by_cases h0 : j = 0
  · simp [h0]
  · have e2 : L.getD (j - 1) z94 = L[j - 1] := by rw [List.getD_eq_getElem?_getD, List.getElem?_eq_getElem (by omega)]; rfl
    have := List.pairwise_iff_getElem.1 h2 (j - 1) j (by omega) hj (by omega)
    rw [e2]
    simp [this]
abbrev A6 := Int × Int × Int × Int × Int × Int
def mg (a b : A6) : A6 := if a.1 = 0 then b else if b.1 = 0 then a else (wrap64 (a.1 + b.1), wrap64 (a.2.1 + b.2.1), mn a.2.2.1 b.2.2.1, mx a.2.2.2.1 b.2.2.2.1, a.2.2.2.2.1, b.2.2.2.2.2)
theorem merged_mg (a b : A6) : impl_Agg_merged.f a.1 a.2.1 a.2.2.1 a.2.2.2.1 a.2.2.2.2.1 a.2.2.2.2.2 b.1 b.2.1 b.2.2.1 b.2.2.2.1 b.2.2.2.2.1 b.2.2.2.2.2 = some (mg a b) := by
  unfold impl_Agg_merged.f mg
  split
  · rfl
  · split <;> rfl
def one (v : Int) : A6 := (1, v, v, v, v, v)
def fo (a : A6) (l : List S94) : A6 := l.foldl (fun a s => mg a (one s.f1)) a
def ag (l : List S94) : A6 := fo (0, 0, 0, 0, 0, 0) l
theorem agg_fo (l : List S94) (hl : l.length ≤ 1048576) (d : Nat) : ∀ (k i : Nat) (x : A6), i ≤ l.length → l.length - i = d → d < k →
    impl_aggOf.l0 k l (l.length : Int) (i : Int) x.1 x.2.1 x.2.2.1 x.2.2.2.1 x.2.2.2.2.1 x.2.2.2.2.2 = some (fo x (l.drop i)) := by
  induction d with
  | zero =>
    intro k i x hi hd hk
    obtain ⟨k, rfl⟩ : ∃ m, k = m + 1 := ⟨k - 1, by omega⟩
    simp only [impl_aggOf.l0]
    rw [if_neg (by omega), List.drop_of_length_le (by omega)]
    rfl
  | succ d ih =>
    intro k i x hi hd hk
    obtain ⟨k, rfl⟩ : ∃ m, k = m + 1 := ⟨k - 1, by omega⟩
    have hlt : i < l.length := by omega
    have e1 : ((i : Int) < (l.length : Int)) = True := eq_true (by omega)
    have e3 : ((0 : Int) ≤ (i : Int)) = True := eq_true (by omega)
    have e4 := merged_mg x (one (rd_T94 l (i : Int)).f1)
    simp only [one] at e4
    simp only [impl_aggOf.l0, e1, e3, if_true, cast_wrap hlt (by omega : l.length ≤ 140737488351232), e4, Option.bind_some]
    rw [ih k (i + 1) _ (by omega) (by omega) (by omega), List.drop_eq_getElem_cons hlt, rd94_at l i hlt]
    rfl
theorem aggOf_ag (l : List S94) (hl : l.length ≤ 1048576) (k : Nat) (hk : l.length < k) : impl_aggOf.f k l = some (ag l) :=
  agg_fo l hl l.length k 0 (0, 0, 0, 0, 0, 0) (by omega) (by omega) hk
/-- an aggregate of n right samples -/
def Fit (a : A6) (n : Nat) : Prop := a.1 = n ∧ n ≤ 1000 ∧ (n = 0 → a = (0, 0, 0, 0, 0, 0)) ∧ (n ≠ 0 → -1000000 ≤ a.2.2.1 ∧ a.2.2.2.1 ≤ 1000000 ∧ a.2.2.1 ≤ a.2.2.2.2.1 ∧ a.2.2.2.2.1 ≤ a.2.2.2.1 ∧ a.2.2.1 ≤ a.2.2.2.2.2 ∧ a.2.2.2.2.2 ≤ a.2.2.2.1 ∧ (n : Int) * a.2.2.1 ≤ a.2.1 ∧ a.2.1 ≤ (n : Int) * a.2.2.2.1)
theorem fit_zero : Fit (0, 0, 0, 0, 0, 0) 0 := ⟨rfl, by decide, fun _ => rfl, fun h => absurd rfl h⟩
theorem fit_one {v : Int} (h : -1000000 ≤ v ∧ v ≤ 1000000) : Fit (one v) 1 :=
  ⟨rfl, by decide, fun h => absurd h (by decide), fun _ => ⟨h.1, h.2, Int.le_refl _, Int.le_refl _, Int.le_refl _, Int.le_refl _, by show ((1 : Nat) : Int) * v ≤ v; omega, by show v ≤ ((1 : Nat) : Int) * v; omega⟩⟩
theorem mn_le (a b : Int) : mn a b ≤ a ∧ mn a b ≤ b ∧ (mn a b = a ∨ mn a b = b) := by unfold mn; split <;> omega
theorem mx_ge (a b : Int) : a ≤ mx a b ∧ b ≤ mx a b ∧ (mx a b = a ∨ mx a b = b) := by unfold mx; split <;> omega
theorem fit_sum {a : A6} {n : Nat} (h : Fit a n) : -1000000000 ≤ a.2.1 ∧ a.2.1 ≤ 1000000000 := by
  obtain ⟨h1, h2, h3, h4⟩ := h
  by_cases h0 : n = 0
  · rw [h3 h0]; decide
  · obtain ⟨a1, a2, a3, a4, a5, a6, a7, a8⟩ := h4 h0
    have b1 : (n : Int) * (-1000000) ≤ (n : Int) * a.2.2.1 := Int.mul_le_mul_of_nonneg_left a1 (by omega)
    have b2 : (n : Int) * a.2.2.2.1 ≤ (n : Int) * 1000000 := Int.mul_le_mul_of_nonneg_left a2 (by omega)
    omega
theorem fit_mg {a b : A6} {n m : Nat} (ha : Fit a n) (hb : Fit b m) (hnm : n + m ≤ 1000) : Fit (mg a b) (n + m) := by
  have sa := fit_sum ha
  have sb := fit_sum hb
  by_cases h0 : n = 0
  · subst h0
    have : mg a b = b := by unfold mg; rw [if_pos (by rw [ha.1]; rfl)]
    rw [this, Nat.zero_add]; exact hb
  · by_cases h1 : m = 0
    · subst h1
      have : mg a b = a := by unfold mg; rw [if_neg (by rw [ha.1]; omega), if_pos (by rw [hb.1]; rfl)]
      rw [this]; exact ha
    · obtain ⟨ha1, ha2, ha3, ha4⟩ := ha
      obtain ⟨hb1, hb2, hb3, hb4⟩ := hb
      obtain ⟨a1, a2, a3, a4, a5, a6, a7, a8⟩ := ha4 h0
      obtain ⟨b1, b2, b3, b4, b5, b6, b7, b8⟩ := hb4 h1
      have e : mg a b = (a.1 + b.1, a.2.1 + b.2.1, mn a.2.2.1 b.2.2.1, mx a.2.2.2.1 b.2.2.2.1, a.2.2.2.2.1, b.2.2.2.2.2) := by
        unfold mg
        rw [if_neg (by rw [ha1]; omega), if_neg (by rw [hb1]; omega), wrap_id _ (by omega) (by omega), wrap_id _ (by omega) (by omega)]
      rw [e]
      obtain ⟨p1, p2, p3⟩ := mn_le a.2.2.1 b.2.2.1
      obtain ⟨q1, q2, q3⟩ := mx_ge a.2.2.2.1 b.2.2.2.1
      have r1 : (n : Int) * mn a.2.2.1 b.2.2.1 ≤ (n : Int) * a.2.2.1 := Int.mul_le_mul_of_nonneg_left p1 (by omega)
      have r2 : (m : Int) * mn a.2.2.1 b.2.2.1 ≤ (m : Int) * b.2.2.1 := Int.mul_le_mul_of_nonneg_left p2 (by omega)
      have r3 : (n : Int) * a.2.2.2.1 ≤ (n : Int) * mx a.2.2.2.1 b.2.2.2.1 := Int.mul_le_mul_of_nonneg_left q1 (by omega)
      have r4 : (m : Int) * b.2.2.2.1 ≤ (m : Int) * mx a.2.2.2.1 b.2.2.2.1 := Int.mul_le_mul_of_nonneg_left q2 (by omega)
      refine ⟨by show a.1 + b.1 = _; omega, hnm, fun h => by omega, fun _ => ?_⟩
      refine ⟨by show _ ≤ mn _ _; omega, by show mx _ _ ≤ _; omega, by show mn _ _ ≤ a.2.2.2.2.1; omega, by show a.2.2.2.2.1 ≤ mx _ _; omega, by show mn _ _ ≤ b.2.2.2.2.2; omega, by show b.2.2.2.2.2 ≤ mx _ _; omega, ?_, ?_⟩
      · show ((n + m : Nat) : Int) * mn _ _ ≤ a.2.1 + b.2.1
        rw [Int.natCast_add, Int.add_mul]; omega
      · show a.2.1 + b.2.1 ≤ ((n + m : Nat) : Int) * mx _ _
        rw [Int.natCast_add, Int.add_mul]; omega
theorem mg_assoc {a b c : A6} {n m k : Nat} (ha : Fit a n) (hb : Fit b m) (hc : Fit c k) (hnm : n + m ≤ 1000) (hmk : m + k ≤ 1000) : mg (mg a b) c = mg a (mg b c) := by
  have hab := fit_mg ha hb hnm
  have hbc := fit_mg hb hc hmk
  have z : ∀ {x y : A6}, x.1 = 0 → mg x y = y := fun h => by unfold mg; rw [if_pos h]
  have y : ∀ {x y : A6}, x.1 ≠ 0 → y.1 = 0 → mg x y = x := fun h h' => by unfold mg; rw [if_neg h, if_pos h']
  by_cases h0 : n = 0
  · subst h0; rw [z ha.1, z ha.1]
  · have na : a.1 ≠ 0 := by rw [ha.1]; omega
    by_cases h1 : m = 0
    · subst h1; rw [y na hb.1, z hb.1]
    · have nb : b.1 ≠ 0 := by rw [hb.1]; omega
      have nab : (mg a b).1 ≠ 0 := by rw [hab.1]; omega
      have nbc : (mg b c).1 ≠ 0 := by rw [hbc.1]; omega
      by_cases h2 : k = 0
      · subst h2; rw [y nab hc.1, y nb hc.1]
      · have nc : c.1 ≠ 0 := by rw [hc.1]; omega
        have u : ∀ {x y : A6}, x.1 ≠ 0 → y.1 ≠ 0 → mg x y = (wrap64 (x.1 + y.1), wrap64 (x.2.1 + y.2.1), mn x.2.2.1 y.2.2.1, mx x.2.2.2.1 y.2.2.2.1, x.2.2.2.2.1, y.2.2.2.2.2) := fun h h' => by unfold mg; rw [if_neg h, if_neg h']
        have w : ∀ p q r : Int, wrap64 (wrap64 (p + q) + r) = wrap64 (p + wrap64 (q + r)) := fun p q r => by unfold wrap64; omega
        have mna : ∀ p q r : Int, mn (mn p q) r = mn p (mn q r) := fun p q r => by unfold mn; repeat' split <;> omega
        have mxa : ∀ p q r : Int, mx (mx p q) r = mx p (mx q r) := fun p q r => by unfold mx; repeat' split <;> omega
        rw [u nab nc, u na nbc, u na nb, u nb nc]
        simp only [w, mna, mxa]
theorem fo_mg (l : List S94) (hv : ∀ x ∈ l, -1000000 ≤ x.f1 ∧ x.f1 ≤ 1000000) : ∀ {a b : A6} {n m : Nat}, Fit a n → Fit b m → n + m + l.length ≤ 1000 → fo (mg a b) l = mg a (fo b l) ∧ Fit (fo b l) (m + l.length) := by
  induction l with
  | nil => intro a b n m ha hb _; exact ⟨rfl, hb⟩
  | cons s l ih =>
    intro a b n m ha hb hl
    have hl' : n + m + (l.length + 1) ≤ 1000 := hl
    have h1 := fit_one (hv s (List.mem_cons_self ..))
    have hb1 := fit_mg hb h1 (by omega)
    obtain ⟨i1, i2⟩ := ih (fun x hx => hv x (List.mem_cons_of_mem _ hx)) ha hb1 (by omega)
    refine ⟨?_, ?_⟩
    · show fo (mg (mg a b) (one s.f1)) l = mg a (fo (mg b (one s.f1)) l)
      rw [mg_assoc ha hb h1 (by omega) (by omega)]
      exact i1
    · show Fit (fo (mg b (one s.f1)) l) (m + (l.length + 1))
      rw [show m + (l.length + 1) = m + 1 + l.length by omega]
      exact i2
theorem good_v {l : List S94} (h : Good l) : ∀ x ∈ l, -1000000 ≤ x.f1 ∧ x.f1 ≤ 1000000 := fun x hx => (h.2.2 x hx).2.2
theorem ag_fit {l : List S94} (h : Good l) : Fit (ag l) l.length := by
  have := (fo_mg l (good_v h) fit_zero fit_zero (by have := h.1; omega)).2
  rwa [Nat.zero_add] at this
theorem ag_append {l l' : List S94} (h : Good l) (h' : Good l') : ag (l ++ l') = mg (ag l) (ag l') := by
  have f := ag_fit h
  have e : mg (ag l) (0, 0, 0, 0, 0, 0) = ag l := by
    by_cases h0 : l.length = 0
    · rw [f.2.2.1 h0]; rfl
    · unfold mg; rw [if_neg (by rw [f.1]; omega), if_pos rfl]
  have := (fo_mg l' (good_v h') f fit_zero (by have := h.1; have := h'.1; omega)).1
  rw [e] at this
  show fo _ (l ++ l') = _
  unfold fo
  rw [List.foldl_append]
  exact this
theorem fit_agg {a : A6} {n : Nat} (h : Fit a n) : aggB a.1 a.2.1 a.2.2.1 a.2.2.2.1 a.2.2.2.2.1 a.2.2.2.2.2 = true := by
  obtain ⟨h1, h2, h3, h4⟩ := h
  by_cases h0 : n = 0
  · rw [h3 h0]; rfl
  · obtain ⟨a1, a2, a3, a4, a5, a6, a7, a8⟩ := h4 h0
    unfold aggB
    simp only [Bool.or_eq_true, Bool.and_eq_true, decide_eq_true_eq, beq_iff_eq, h1]
    refine Or.inr ⟨⟨⟨⟨⟨⟨⟨⟨⟨⟨⟨?_, ?_⟩, ?_⟩, ?_⟩, ?_⟩, ?_⟩, ?_⟩, ?_⟩, ?_⟩, ?_⟩, ?_⟩, ?_⟩ <;> omega
theorem aggOf_good {l : List S94} (h : Good l) (k : Nat) : impl_AggOf.f (k + 30) l = some ((ag l).1, (ag l).2.1, (ag l).2.2.1, (ag l).2.2.2.1, (ag l).2.2.2.2.1, (ag l).2.2.2.2.2, 0) ∧ spec_AggOf.f (k + 30) l = some ((ag l).1, (ag l).2.1, (ag l).2.2.1, (ag l).2.2.2.1, (ag l).2.2.2.2.1, (ag l).2.2.2.2.2, 0) ∧ impl_SamplesOK.f (k + 30) l = some true := by
  have hl := h.1
  obtain ⟨h1, h2⟩ := sok_eq l (by omega) (k + 30) (by omega)
  obtain ⟨m, h3, h4⟩ := aggof_eq l (by omega) (k + 30) (by omega)
  rw [aggOf_ag l (by omega) (k + 30) (by omega)] at h4
  obtain rfl := Option.some.inj h4
  rw [good_sok h] at h1 h2
  have hf := first2 (k + 27)
  have hd : decide ((l.length : Int) > 4096) = false := decide_eq_false (by omega)
  have hn : ¬ (l.length : Int) > 4096 := by omega
  refine ⟨?_, ?_, h2⟩
  · unfold impl_AggOf.f impl_Sample.f
    simp only [Option.bind_some, h2, aggOf_ag l (by omega) (k + 30) (by omega), hf, hd]
    simp
  · unfold spec_AggOf.f
    simp only [Option.bind_some, h1, h3, if_neg hn]
    simp
theorem merge_good {a b : A6} {n m : Nat} (ha : Fit a n) (hb : Fit b m) (hnm : n + m ≤ 1000) (k : Nat) : impl_MergeAgg.f (k + 30) a.1 a.2.1 a.2.2.1 a.2.2.2.1 a.2.2.2.2.1 a.2.2.2.2.2 b.1 b.2.1 b.2.2.1 b.2.2.2.1 b.2.2.2.2.1 b.2.2.2.2.2 = some ((mg a b).1, (mg a b).2.1, (mg a b).2.2.1, (mg a b).2.2.2.1, (mg a b).2.2.2.2.1, (mg a b).2.2.2.2.2, 0) := by
  have hf := first2 (k + 27)
  have w : wrap64 (a.1 + b.1) = a.1 + b.1 := wrap_id _ (by rw [ha.1, hb.1]; omega) (by rw [ha.1, hb.1]; omega)
  have hd : decide (a.1 + b.1 > 100000) = false := decide_eq_false (by rw [ha.1, hb.1]; omega)
  unfold impl_MergeAgg.f
  simp only [impl_agg, fit_agg ha, fit_agg hb, Option.bind_some, if_true, w, hd, hf, merged_mg]
  simp
theorem agg_law (k : Nat) (l0 l1 : List Int) (L0 L1 L P Q R : List S94) (i j : Int) (a p q r x z : A6)
    (e0 : spec_SamplesOf.f k l0 0 8 = some L0) (e1 : spec_SamplesOf.f k l1 100 8 = some L1) (e2 : (L0.length + L1.length < 8796093022208) = True) (hL : L0 ++ L1 = L)
    (e3 : laws_at.f l1 0 (wrap64 ((L.length : Int) + 1)) = some i) (e4 : laws_at.f l1 1 (wrap64 (wrap64 ((L.length : Int) - i) + 1)) = some j) (e5 : wrap64 (i + j) = i + j)
    (q1 : (0 ≤ i) = True) (q2 : (i ≤ (L.length : Int)) = True) (q3 : (i ≤ i + j) = True) (q4 : (i + j ≤ (L.length : Int)) = True) (q5 : (0 ≤ i + j) = True)
    (hP : L.take i.toNat = P) (hQ : (L.take (i + j).toNat).drop i.toNat = Q) (hR : L.drop (i + j).toNat = R)
    (aL : impl_AggOf.f k L = some (a.1, a.2.1, a.2.2.1, a.2.2.2.1, a.2.2.2.2.1, a.2.2.2.2.2, 0)) (sL : spec_AggOf.f k L = some (a.1, a.2.1, a.2.2.1, a.2.2.2.1, a.2.2.2.2.1, a.2.2.2.2.2, 0)) (aP : impl_AggOf.f k P = some (p.1, p.2.1, p.2.2.1, p.2.2.2.1, p.2.2.2.2.1, p.2.2.2.2.2, 0)) (aQ : impl_AggOf.f k Q = some (q.1, q.2.1, q.2.2.1, q.2.2.2.1, q.2.2.2.2.1, q.2.2.2.2.2, 0)) (aR : impl_AggOf.f k R = some (r.1, r.2.1, r.2.2.1, r.2.2.2.1, r.2.2.2.2.1, r.2.2.2.2.2, 0))
    (mx_ : impl_MergeAgg.f k p.1 p.2.1 p.2.2.1 p.2.2.2.1 p.2.2.2.2.1 p.2.2.2.2.2 q.1 q.2.1 q.2.2.1 q.2.2.2.1 q.2.2.2.2.1 q.2.2.2.2.2 = some (x.1, x.2.1, x.2.2.1, x.2.2.2.1, x.2.2.2.2.1, x.2.2.2.2.2, 0)) (my_ : impl_MergeAgg.f k x.1 x.2.1 x.2.2.1 x.2.2.2.1 x.2.2.2.2.1 x.2.2.2.2.2 r.1 r.2.1 r.2.2.1 r.2.2.2.1 r.2.2.2.2.1 r.2.2.2.2.2 = some (a.1, a.2.1, a.2.2.1, a.2.2.2.1, a.2.2.2.2.1, a.2.2.2.2.2, 0)) (mz_ : impl_MergeAgg.f k q.1 q.2.1 q.2.2.1 q.2.2.2.1 q.2.2.2.2.1 q.2.2.2.2.2 r.1 r.2.1 r.2.2.1 r.2.2.2.1 r.2.2.2.2.1 r.2.2.2.2.2 = some (z.1, z.2.1, z.2.2.1, z.2.2.2.1, z.2.2.2.2.1, z.2.2.2.2.2, 0)) (mu_ : impl_MergeAgg.f k p.1 p.2.1 p.2.2.1 p.2.2.2.1 p.2.2.2.2.1 p.2.2.2.2.2 z.1 z.2.1 z.2.2.1 z.2.2.2.1 z.2.2.2.2.1 z.2.2.2.2.2 = some (a.1, a.2.1, a.2.2.1, a.2.2.2.1, a.2.2.2.2.1, a.2.2.2.2.2, 0))
    (hk : impl_AggOK.f a.1 a.2.1 a.2.2.1 a.2.2.2.1 a.2.2.2.2.1 a.2.2.2.2.2 = some true) (kL : impl_SamplesOK.f k L = some true) (hc : a.1 = (L.length : Int)) : laws_FnAgg.j0 (k + 1) l0 l1 false = some true := by
  rw [hc] at aL sL my_ mu_ hk
  rw [laws_FnAgg.j0, if_neg (by decide), e0, Option.bind_some, e1, Option.bind_some, if_pos (of_eq_true e2), Option.bind_some, hL, e3, Option.bind_some, e4, Option.bind_some, aL, Option.bind_some, sL, Option.bind_some, if_pos (of_eq_true q1), if_pos (of_eq_true q2), hP, aP, Option.bind_some, e5, if_pos (of_eq_true q3), if_pos (of_eq_true q4), hQ, aQ, Option.bind_some, if_pos (of_eq_true q5), hR, aR, Option.bind_some]
  dsimp only
  rw [mx_, Option.bind_some]
  dsimp only
  rw [my_, Option.bind_some]
  dsimp only
  rw [mz_, Option.bind_some]
  dsimp only
  rw [mu_, Option.bind_some]
  dsimp only
  rw [hk, Option.bind_some, kL, Option.bind_some]
  simp only [beq_self_eq_true, Bool.and_self, if_true]
theorem places {c : List Int} (hc : Bytes c) (hl : c.length ≤ 140737488351232) (n : Nat) (hn : n ≤ 16) : ∃ i j, laws_at.f c 0 (wrap64 ((n : Int) + 1)) = some i ∧ laws_at.f c 1 (wrap64 (wrap64 ((n : Int) - i) + 1)) = some j ∧ 0 ≤ i ∧ 0 ≤ j ∧ i + j ≤ n ∧ wrap64 (i + j) = i + j := by
  rw [wrap_id ((n : Int) + 1) (by omega) (by omega)]
  obtain ⟨i, e3, i0, i1⟩ := at_ok hc hl 0 ((n : Int) + 1) (by decide) (by decide) (by omega) (by omega)
  have w1 : wrap64 ((n : Int) - i) = n - i := wrap_id _ (by omega) (by omega)
  have w2 : wrap64 ((n : Int) - i + 1) = n - i + 1 := wrap_id _ (by omega) (by omega)
  obtain ⟨j, e4, j0, j1⟩ := at_ok hc hl 1 ((n : Int) - i + 1) (by decide) (by decide) (by omega) (by omega)
  refine ⟨i, j, e3, ?_, i0, j0, by omega, wrap_id _ (by omega) (by omega)⟩
  rw [w1, w2]; exact e4
theorem parts {L : List S94} (hG : Good L) (i j : Nat) (hij : i ≤ j) (k : Nat) : ∃ p q r x z : A6,
    impl_AggOf.f (k + 30) (L.take i) = some (p.1, p.2.1, p.2.2.1, p.2.2.2.1, p.2.2.2.2.1, p.2.2.2.2.2, 0) ∧ impl_AggOf.f (k + 30) ((L.take j).drop i) = some (q.1, q.2.1, q.2.2.1, q.2.2.2.1, q.2.2.2.2.1, q.2.2.2.2.2, 0) ∧ impl_AggOf.f (k + 30) (L.drop j) = some (r.1, r.2.1, r.2.2.1, r.2.2.2.1, r.2.2.2.2.1, r.2.2.2.2.2, 0) ∧
    impl_MergeAgg.f (k + 30) p.1 p.2.1 p.2.2.1 p.2.2.2.1 p.2.2.2.2.1 p.2.2.2.2.2 q.1 q.2.1 q.2.2.1 q.2.2.2.1 q.2.2.2.2.1 q.2.2.2.2.2 = some (x.1, x.2.1, x.2.2.1, x.2.2.2.1, x.2.2.2.2.1, x.2.2.2.2.2, 0) ∧ impl_MergeAgg.f (k + 30) x.1 x.2.1 x.2.2.1 x.2.2.2.1 x.2.2.2.2.1 x.2.2.2.2.2 r.1 r.2.1 r.2.2.1 r.2.2.2.1 r.2.2.2.2.1 r.2.2.2.2.2 = some ((ag L).1, (ag L).2.1, (ag L).2.2.1, (ag L).2.2.2.1, (ag L).2.2.2.2.1, (ag L).2.2.2.2.2, 0) ∧ impl_MergeAgg.f (k + 30) q.1 q.2.1 q.2.2.1 q.2.2.2.1 q.2.2.2.2.1 q.2.2.2.2.2 r.1 r.2.1 r.2.2.1 r.2.2.2.1 r.2.2.2.2.1 r.2.2.2.2.2 = some (z.1, z.2.1, z.2.2.1, z.2.2.2.1, z.2.2.2.2.1, z.2.2.2.2.2, 0) ∧ impl_MergeAgg.f (k + 30) p.1 p.2.1 p.2.2.1 p.2.2.2.1 p.2.2.2.2.1 p.2.2.2.2.2 z.1 z.2.1 z.2.2.1 z.2.2.2.1 z.2.2.2.2.1 z.2.2.2.2.2 = some ((ag L).1, (ag L).2.1, (ag L).2.2.1, (ag L).2.2.2.1, (ag L).2.2.2.2.1, (ag L).2.2.2.2.2, 0) := by
  have gP : Good (L.take i) := good_sub hG (List.take_sublist _ _)
  have gPQ : Good (L.take j) := good_sub hG (List.take_sublist _ _)
  have gQ : Good ((L.take j).drop i) := good_sub gPQ (List.drop_sublist _ _)
  have gR : Good (L.drop j) := good_sub hG (List.drop_sublist _ _)
  have hPQ : L.take i ++ (L.take j).drop i = L.take j := by
    have : L.take i = (L.take j).take i := by rw [List.take_take, Nat.min_eq_left hij]
    rw [this, List.take_append_drop]
  have fP := ag_fit gP
  have fQ := ag_fit gQ
  have fR := ag_fit gR
  have lP := gP.1
  have lQ := gQ.1
  have lR := gR.1
  have h1 : (L.take i).length + ((L.take j).drop i).length ≤ 1000 := by omega
  have h2 : ((L.take j).drop i).length + (L.drop j).length ≤ 1000 := by omega
  have h3 : (L.take i).length + ((L.take j).drop i).length + (L.drop j).length ≤ 1000 := by omega
  have h4 : (L.take i).length + (((L.take j).drop i).length + (L.drop j).length) ≤ 1000 := by omega
  have fx := fit_mg fP fQ h1
  have fz := fit_mg fQ fR h2
  have hx : mg (mg (ag (L.take i)) (ag ((L.take j).drop i))) (ag (L.drop j)) = ag L := by
    rw [← ag_append gP gQ, hPQ, ← ag_append gPQ gR, List.take_append_drop]
  have hu : mg (ag (L.take i)) (mg (ag ((L.take j).drop i)) (ag (L.drop j))) = ag L := by
    rw [← mg_assoc fP fQ fR h1 h2, hx]
  have my_ := merge_good fx fR h3 k
  have mu_ := merge_good fP fz h4 k
  rw [hx] at my_
  rw [hu] at mu_
  exact ⟨_, _, _, _, _, (aggOf_good gP k).1, (aggOf_good gQ k).1, (aggOf_good gR k).1, merge_good fP fQ h1 k, my_, merge_good fQ fR h2 k, mu_⟩
theorem agg_start (n : Nat) (l0 l1 : List Int) (hj : laws_FnAgg.j0 (n + 1) l0 l1 false = some true) : laws_FnAgg.f (n + 1) l0 l1 = some true := by
  have ht : laws_FnAgg.j0 (n + 1) l0 l1 true = some true := by simp only [laws_FnAgg.j0, if_true]
  unfold laws_FnAgg.f
  by_cases h : (l0.length : Int) > 1048576
  · rw [if_pos h]; exact ht
  · rw [if_neg h]
    by_cases h' : (l1.length : Int) > 1048576
    · rw [decide_eq_true h']; exact ht
    · rw [decide_eq_false h']; exact hj
theorem both_good {L0 L1 : List S94} (n0 : L0.length ≤ 8) (r0 : Run 0 (0 + 32) L0) (n1 : L1.length ≤ 8) (r1 : Run 100 (100 + 32) L1) : Good (L0 ++ L1) := by
  refine ⟨by simp; omega, List.pairwise_append.2 ⟨r0.1, r1.1, fun x hx y hy => ?_⟩, fun x hx => ?_⟩
  · have := r0.2 x hx
    have := r1.2 y hy
    omega
  · rcases List.mem_append.1 hx with hx | hx
    · have := r0.2 x hx
      omega
    · have := r1.2 x hx
      omega
theorem FnAgg : laws_FnAgg.Pure := by
  intro l0 l1 ⟨hm0, hn0, hb0⟩ ⟨hm1, hn1, hb1⟩
  have hb0 := bytes_of hb0
  have hb1 := bytes_of hb1
  obtain ⟨k, hk40⟩ : ∃ k : Nat, k = 40 := ⟨_, rfl⟩
  clear hk40
  refine ⟨k + 30 + 1, ?_⟩
  refine agg_start _ _ _ ?_
  obtain ⟨L0, e0, n0, r0⟩ := samplesOf_ok hb0 (k + 30) (by omega) 0 (by decide) (by decide)
  obtain ⟨L1, e1, n1, r1⟩ := samplesOf_ok hb1 (k + 30) (by omega) 100 (by decide) (by decide)
  have hG := both_good n0 r0 n1 r1
  have e2 : (L0.length + L1.length < 8796093022208) = True := eq_true (by omega)
  obtain ⟨L, hL⟩ : ∃ L, L0 ++ L1 = L := ⟨_, rfl⟩
  rw [hL] at hG
  obtain ⟨i, j, e3, e4, i0, j0, ij, e5⟩ := places hb1 (by omega) L.length hG.1
  have q1 : (0 ≤ i) = True := eq_true i0
  have q2 : (i ≤ (L.length : Int)) = True := eq_true (Int.le_trans (Int.le_add_of_nonneg_right j0) ij)
  have q3 : (i ≤ i + j) = True := eq_true (Int.le_add_of_nonneg_right j0)
  have q4 : (i + j ≤ (L.length : Int)) = True := eq_true ij
  have q5 : (0 ≤ i + j) = True := eq_true (Int.add_nonneg i0 j0)
  obtain ⟨p, q, r, x, z, aP, aQ, aR, mx_, my_, mz_, mu_⟩ := parts hG i.toNat (i + j).toNat (Int.toNat_le_toNat (Int.le_add_of_nonneg_right j0)) k
  obtain ⟨aL, sL, kL⟩ := aggOf_good hG k
  have hk : impl_AggOK.f (ag L).1 (ag L).2.1 (ag L).2.2.1 (ag L).2.2.2.1 (ag L).2.2.2.2.1 (ag L).2.2.2.2.2 = some true := by rw [impl_agg, fit_agg (ag_fit hG)]
  exact agg_law (k + 30) l0 l1 L0 L1 L _ _ _ i j _ p q r x z e0 e1 e2 hL e3 e4 e5 q1 q2 q3 q4 q5 rfl rfl rfl aL sL aP aQ aR mx_ my_ mz_ mu_ hk kL (ag_fit hG).1

end Go.Proofs.Yteiolcfgaklafaa.Pure
