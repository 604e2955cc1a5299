/- The pure law of FnExactRollUp: what the printed functions compute answers true for every input of the kinds and sizes that the statement gives. -/
import Derived.Test.YtcdkphafiibpcaaKinFnExactRollUp
namespace Go.Proofs.Ytcdkphafiibpcaa.Pure
open Go.RowKit Go.Proofs.YtcdkphafiibpcaaW.PrintWords Go.Proofs.YtcdkphafiibpcaaW.PrintLast Go.Proofs.Ytcdkphafiibpcaa.XFnExactRollUp
set_option linter.unusedSimpArgs false
set_option linter.unusedVariables false

-- BODY
/-- list places, as the printed loops spell them -/
theorem cast_wrap {i n : Nat} (h : i < n) (hn : n ≤ 140737488351232) : wrap64 ((i : Int) + 1) = ((i + 1 : Nat) : Int) := by unfold wrap64; omega
theorem take_set_succ {α : Type} (l : List α) (i : Nat) (v : α) (h : i < l.length) : (l.set i v).take (i + 1) = l.take i ++ [v] := by
  rw [List.take_succ_eq_append_getElem (by simpa using h)]
  simp only [List.take_set, List.getElem_set_self]
  rw [List.set_eq_of_length_le (by simp; omega)]
theorem rd99_at (l : List S99) (i : Nat) (h : i < l.length) : rd_T99 l (i : Int) = l[i] := by
  unfold rd_T99; rw [Int.toNat_natCast, List.getD_eq_getElem?_getD, List.getElem?_eq_getElem h]; rfl
theorem rd106_at (l : List S106) (i : Nat) (h : i < l.length) : rd_T106 l (i : Int) = l[i] := by
  unfold rd_T106; rw [Int.toNat_natCast, List.getD_eq_getElem?_getD, List.getElem?_eq_getElem h]; rfl
def cvBucket (x : S106) : S99 := ⟨x.f0, ⟨x.f1.f0, x.f1.f1, x.f1.f2, x.f1.f3, x.f1.f4, x.f1.f5⟩⟩
theorem toBucketS_loop (l : List S106) (hl : l.length ≤ 1048576) (d : Nat) : ∀ (k i : Nat) (x : List S99), x.length = l.length → i ≤ l.length → l.length - i = d → d < k →
    laws_toBucketS.l0 k l x (i : Int) = some (x.take i ++ (l.drop i).map cvBucket) := by
  induction d with
  | zero =>
    intro k i x hx hi hd hk
    obtain ⟨k, rfl⟩ : ∃ m, k = m + 1 := ⟨k - 1, by omega⟩
    obtain rfl : i = l.length := by omega
    simp only [laws_toBucketS.l0]
    rw [if_neg (by omega), List.drop_length, List.map_nil, List.append_nil, ← hx, List.take_length]
  | succ d ih =>
    intro k i x hx hi hd hk
    obtain ⟨k, rfl⟩ : ∃ m, k = m + 1 := ⟨k - 1, by omega⟩
    have hlt : i < l.length := by omega
    simp only [laws_toBucketS.l0, laws_toBucket.f, laws_toAgg.f, Option.bind_some]
    rw [if_pos (by omega), if_pos (by omega), if_pos (by omega), rd106_at l i hlt, cast_wrap hlt (by omega), ih k (i + 1) _ (by simpa using hx) (by omega) (by omega) (by omega), Int.toNat_natCast, take_set_succ _ _ _ (by omega),
      List.drop_eq_getElem_cons hlt, List.map_cons, List.append_assoc]
    rfl
theorem toBucketS_eq (l : List S106) (hl : l.length ≤ 1048576) (k : Nat) (hk : l.length < k) : laws_toBucketS.f k l = some (l.map cvBucket) := by
  unfold laws_toBucketS.f
  rw [if_pos (by omega), if_pos (by omega)]
  have := toBucketS_loop l hl l.length k 0 (List.replicate ((l.length : Int)).toNat z99) (by simp) (by omega) (by omega) hk
  refine Eq.trans this ?_
  simp
theorem eqBucket_same (x0 : Int) (x1 : Int) (x2 : Int) (x3 : Int) (x4 : Int) (x5 : Int) (x6 : Int) : laws_eqBucket.f x0 x1 x2 x3 x4 x5 x6 x0 x1 x2 x3 x4 x5 x6 = some true := by simp [laws_eqBucket.f, laws_eqAgg.f]
theorem eqBucketS_loop (a : List S99) (hl : a.length ≤ 1048576) (d : Nat) : ∀ (k i : Nat), i ≤ a.length → a.length - i = d → d < k → laws_eqBucketS.l0 k a a (i : Int) = some true := by
  induction d with
  | zero =>
    intro k i hi hd hk
    obtain ⟨k, rfl⟩ : ∃ m, k = m + 1 := ⟨k - 1, by omega⟩
    simp only [laws_eqBucketS.l0]
    rw [if_neg (by omega)]
  | succ d ih =>
    intro k i hi hd hk
    obtain ⟨k, rfl⟩ : ∃ m, k = m + 1 := ⟨k - 1, by omega⟩
    have hlt : i < a.length := by omega
    simp only [laws_eqBucketS.l0]
    rw [if_pos (by omega), if_pos (by omega), if_pos (by omega), eqBucket_same, cast_wrap hlt (by omega), ih k (i + 1) (by omega) (by omega) (by omega)]
    simp
theorem eqBucketS_same (a : List S99) (hl : a.length ≤ 1048576) (k : Nat) (hk : a.length < k) : laws_eqBucketS.f k a a = some true := by
  unfold laws_eqBucketS.f
  rw [if_pos rfl]
  exact eqBucketS_loop a hl a.length k 0 (by omega) (by omega) hk
/-- the mark of an element -/
def mkBucket (m : Int) : S99 := ⟨m, ⟨m + 1, m + 1 + 1, m + 1 + 1 + 1, m + 1 + 1 + 1 + 1, m + 1 + 1 + 1 + 1 + 1, m + 1 + 1 + 1 + 1 + 1 + 1⟩⟩
def marksBucket : Nat → Int → List S99
  | 0, _ => []
  | d + 1, m => mkBucket m :: marksBucket d (m + 1 + 1 + 1 + 1 + 1 + 1 + 1)
theorem markBucketS_loop (d : Nat) : ∀ (k i : Nat) (l : List S99) (m : Int), i ≤ l.length → l.length - i = d → d + 20 < k → l.length ≤ 1048576 → 0 ≤ m → m + 7 * d ≤ 100000000000000 →
    laws_markBucketS.l0 k l m (i : Int) = some (m + 7 * d, l.take i ++ marksBucket d m) := by
  induction d with
  | zero =>
    intro k i l m hi hd hk hl h0 hm
    obtain ⟨k, rfl⟩ : ∃ m, k = m + 1 := ⟨k - 1, by omega⟩
    obtain rfl : i = l.length := by omega
    simp only [laws_markBucketS.l0]
    rw [if_neg (by omega)]
    simp [marksBucket]
  | succ d ih =>
    intro k i l m hi hd hk hl h0 hm
    obtain ⟨k, rfl⟩ : ∃ m, k = m + 1 := ⟨k - 1, by omega⟩
    have hlt : i < l.length := by omega
    have hc : ((d + 1 : Nat) : Int) = (d : Int) + 1 := by omega
    rw [hc] at hm
    have w1 : wrap64 (m + 1) = m + 1 := by unfold wrap64; omega
    have w2 : wrap64 (m + 1 + 1) = m + 1 + 1 := by unfold wrap64; omega
    have w3 : wrap64 (m + 1 + 1 + 1) = m + 1 + 1 + 1 := by unfold wrap64; omega
    have w4 : wrap64 (m + 1 + 1 + 1 + 1) = m + 1 + 1 + 1 + 1 := by unfold wrap64; omega
    have w5 : wrap64 (m + 1 + 1 + 1 + 1 + 1) = m + 1 + 1 + 1 + 1 + 1 := by unfold wrap64; omega
    have w6 : wrap64 (m + 1 + 1 + 1 + 1 + 1 + 1) = m + 1 + 1 + 1 + 1 + 1 + 1 := by unfold wrap64; omega
    have w7 : wrap64 (m + 1 + 1 + 1 + 1 + 1 + 1 + 1) = m + 1 + 1 + 1 + 1 + 1 + 1 + 1 := by unfold wrap64; omega
    have rs : ∀ (l : List S99) (v : S99), i < l.length → rd_T99 (l.set i v) (i : Int) = v := fun l v h => by rw [rd99_at _ _ (by simpa using h), List.getElem_set_self]
    simp only [laws_markBucketS.l0, Option.bind_some, Int.toNat_natCast, w1, w2, w3, w4, w5, w6, w7]
    rw [if_pos (by omega), if_pos (by omega)]
    simp only [List.set_set, List.length_set, rs _ _ hlt, rd99_at l i hlt, cast_wrap hlt (by omega)]
    rw [ih k (i + 1) _ (m + 1 + 1 + 1 + 1 + 1 + 1 + 1) (by simp; omega) (by simp; omega) (by omega) (by simpa using hl) (by omega) (by omega), take_set_succ _ _ _ hlt, List.append_assoc]
    simp only [marksBucket, List.singleton_append, Option.some.injEq, Prod.mk.injEq]
    exact ⟨by omega, rfl⟩
theorem markBucketS_eq (l : List S99) (m : Int) (k : Nat) (hk : l.length + 20 < k) (hl : l.length ≤ 1048576) (h0 : 0 ≤ m) (hm : m + 7 * l.length ≤ 100000000000000) : laws_markBucketS.f k l m = some (m + 7 * l.length, marksBucket l.length m) := by
  have := markBucketS_loop l.length k 0 l m (by omega) (by omega) hk hl h0 hm
  unfold laws_markBucketS.f
  refine Eq.trans this ?_
  simp
theorem marksBucket_length : ∀ (d : Nat) (m : Int), (marksBucket d m).length = d
  | 0, _ => rfl
  | d + 1, m => by simp [marksBucket, marksBucket_length d]
theorem heldBucketS_loop (d : Nat) : ∀ (k : Nat) (p : List S99) (m : Int), d + 20 < k → p.length + d ≤ 1048576 → 0 ≤ m → m + 7 * d ≤ 100000000000000 → laws_heldBucketS.l0 k (p ++ marksBucket d m) m (p.length : Int) = some (m + 7 * d) := by
  induction d with
  | zero =>
    intro k p m hk hl h0 hm
    obtain ⟨k, rfl⟩ : ∃ m, k = m + 1 := ⟨k - 1, by omega⟩
    simp only [laws_heldBucketS.l0, marksBucket, List.append_nil]
    rw [if_neg (by omega)]
    simp
  | succ d ih =>
    intro k p m hk hl h0 hm
    obtain ⟨k, rfl⟩ : ∃ m, k = m + 1 := ⟨k - 1, by omega⟩
    have hc : ((d + 1 : Nat) : Int) = (d : Int) + 1 := by omega
    rw [hc] at hm
    have hlen : (p ++ marksBucket (d + 1) m).length = p.length + (d + 1) := by rw [List.length_append, marksBucket_length]
    have hlt : p.length < (p ++ marksBucket (d + 1) m).length := by omega
    have hat : rd_T99 (p ++ marksBucket (d + 1) m) (p.length : Int) = mkBucket m := by rw [rd99_at _ _ hlt]; simp [marksBucket]
    have w1 : wrap64 (m + 1) = m + 1 := by unfold wrap64; omega
    have w2 : wrap64 (m + 1 + 1) = m + 1 + 1 := by unfold wrap64; omega
    have w3 : wrap64 (m + 1 + 1 + 1) = m + 1 + 1 + 1 := by unfold wrap64; omega
    have w4 : wrap64 (m + 1 + 1 + 1 + 1) = m + 1 + 1 + 1 + 1 := by unfold wrap64; omega
    have w5 : wrap64 (m + 1 + 1 + 1 + 1 + 1) = m + 1 + 1 + 1 + 1 + 1 := by unfold wrap64; omega
    have w6 : wrap64 (m + 1 + 1 + 1 + 1 + 1 + 1) = m + 1 + 1 + 1 + 1 + 1 + 1 := by unfold wrap64; omega
    have w7 : wrap64 (m + 1 + 1 + 1 + 1 + 1 + 1 + 1) = m + 1 + 1 + 1 + 1 + 1 + 1 + 1 := by unfold wrap64; omega
    have hn := ih k (p ++ [mkBucket m]) (m + 1 + 1 + 1 + 1 + 1 + 1 + 1) (by omega) (by simp; omega) (by omega) (by omega)
    rw [List.append_assoc, List.singleton_append, show (((p ++ [mkBucket m]).length : Nat) : Int) = ((p.length + 1 : Nat) : Int) from by simp] at hn
    simp only [laws_heldBucketS.l0, Option.bind_some, w1, w2, w3, w4, w5, w6, w7, hat]
    rw [if_pos (by omega), if_pos (by omega), cast_wrap hlt (by omega)]
    simp only [mkBucket, ne_eq, not_true_eq_false, if_true, if_false]
    refine Eq.trans hn ?_
    rw [hc]
    exact congrArg some (by omega)
theorem heldBucketS_eq (n : Nat) (m : Int) (k : Nat) (hk : n + 20 < k) (hl : n ≤ 1048576) (h0 : 0 ≤ m) (hm : m + 7 * n ≤ 100000000000000) : laws_heldBucketS.f k (marksBucket n m) m = some (m + 7 * n) := by
  have := heldBucketS_loop n k [] m hk (by simpa using hl) h0 hm
  unfold laws_heldBucketS.f
  exact this
theorem szBucketS_tot (l : List S106) (a : Int) (h0 : 0 ≤ a) (h1 : a ≤ 1048576) (hl : l.length ≤ 140737488351232) : laws_szBucketS.f l a = some (if a - l.length < 0 then -1 else a - l.length) := by
  unfold laws_szBucketS.f
  have hw : wrap64 (a - (l.length : Int)) = a - (l.length : Int) := by unfold wrap64; omega
  rw [hw]
  by_cases h : a - (l.length : Int) < 0
  · rw [if_pos h, if_pos h]
  · rw [if_neg h, if_neg h]
theorem first2 (k : Nat) (b1 b2 : Bool) (c1 c2 : Int) : impl_first.f (k + 3) [anyB b1, anyI c1, anyB b2, anyI c2] = some (if b1 = true then c1 else if b2 = true then c2 else 0) := by
  have w1 : wrap64 1 = 1 := by unfold wrap64; omega
  have w2 : wrap64 2 = 2 := by unfold wrap64; omega
  have w3 : wrap64 3 = 3 := by unfold wrap64; omega
  have w4 : wrap64 4 = 4 := by unfold wrap64; omega
  have w5 : wrap64 5 = 5 := by unfold wrap64; omega
  cases b1 <;> cases b2 <;> simp [impl_first.f, impl_first.l0, w1, w2, w3, w4, w5, rdOf, anyAsB, anyAsI]
theorem first3 (k : Nat) (b1 b2 b3 : Bool) (c1 c2 c3 : Int) : impl_first.f (k + 4) [anyB b1, anyI c1, anyB b2, anyI c2, anyB b3, anyI c3] = some (if b1 = true then c1 else if b2 = true then c2 else if b3 = true then c3 else 0) := by
  have w1 : wrap64 1 = 1 := by unfold wrap64; omega
  have w2 : wrap64 2 = 2 := by unfold wrap64; omega
  have w3 : wrap64 3 = 3 := by unfold wrap64; omega
  have w4 : wrap64 4 = 4 := by unfold wrap64; omega
  have w5 : wrap64 5 = 5 := by unfold wrap64; omega
  have w6 : wrap64 6 = 6 := by unfold wrap64; omega
  have w7 : wrap64 7 = 7 := by unfold wrap64; omega
  cases b1 <;> cases b2 <;> cases b3 <;> simp [impl_first.f, impl_first.l0, w1, w2, w3, w4, w5, w6, w7, rdOf, anyAsB, anyAsI]
/-- a right aggregate, in plain words -/
def aggB (c s mn mx f l : Int) : Bool := (c == 0 && s == 0 && mn == 0 && mx == 0 && f == 0 && l == 0) ||
  (decide (1 ≤ c) && decide (c ≤ 100000) && decide (-1000000 ≤ mn) && decide (mn ≤ 1000000) && decide (-1000000 ≤ mx) && decide (mx ≤ 1000000) && decide (mn ≤ f) && decide (f ≤ mx) && decide (mn ≤ l) && decide (l ≤ mx) && decide (c * mn ≤ s) && decide (s ≤ c * mx))
theorem within_eq (a b c : Int) : impl_within.f a b c = some (decide (b ≤ a) && decide (a ≤ c)) := by
  unfold impl_within.f; by_cases h : b ≤ a <;> simp [h]
theorem in_eq (a b c : Int) : spec_l01In.f a b c = some (decide (b ≤ a) && decide (a ≤ c)) := by
  unfold spec_l01In.f; by_cases h : b ≤ a <;> simp [h]
theorem mul_small {c m : Int} (h1 : 1 ≤ c) (h2 : c ≤ 100000) (h3 : -1000000 ≤ m) (h4 : m ≤ 1000000) : wrap64 (c * m) = c * m := by
  have a : c * m ≤ 100000 * 1000000 := by
    rcases Int.lt_or_le m 0 with h | h
    · have : c * m ≤ 0 := Int.mul_nonpos_of_nonneg_of_nonpos (by omega) (by omega)
      omega
    · exact Int.mul_le_mul h2 h4 h (by omega)
  have b : -(100000 * 1000000) ≤ c * m := by
    have h5 : c * (-m) ≤ 100000 * 1000000 := by
      rcases Int.lt_or_le (-m) 0 with h | h
      · have : c * (-m) ≤ 0 := Int.mul_nonpos_of_nonneg_of_nonpos (by omega) (by omega)
        omega
      · exact Int.mul_le_mul h2 (by omega) h (by omega)
    rw [Int.mul_neg] at h5
    omega
  unfold wrap64; omega
theorem spec_agg (c s mn mx f l : Int) : spec_AggOK.f c s mn mx f l = some (aggB c s mn mx f l) := by
  unfold spec_AggOK.f aggB spec_l02Value.f
  simp only [in_eq, Option.bind_some]
  by_cases hc : c = 0
  · subst hc; simp [Bool.and_assoc]
  · have hc' : (c == 0) = false := by simp [hc]
    rw [if_neg hc, hc']
    by_cases h1 : 1 ≤ c <;> by_cases h2 : c ≤ 100000 <;> simp only [h1, h2, decide_true, decide_false, Bool.and_true, Bool.true_and, Bool.and_false, Bool.false_and, Bool.false_or, if_true, if_false, Bool.false_eq_true]
    by_cases h3 : -1000000 ≤ mn <;> by_cases h4 : mn ≤ 1000000 <;> simp only [h3, h4, decide_true, decide_false, Bool.and_true, Bool.true_and, Bool.and_false, Bool.false_and, if_true, if_false, Bool.false_eq_true]
    by_cases h5 : -1000000 ≤ mx <;> by_cases h6 : mx ≤ 1000000 <;> simp only [h5, h6, decide_true, decide_false, Bool.and_true, Bool.true_and, Bool.and_false, Bool.false_and, if_true, if_false, Bool.false_eq_true]
    rw [mul_small h1 h2 h3 h4, mul_small h1 h2 h5 h6]
    by_cases h7 : mn ≤ f <;> by_cases h8 : f ≤ mx <;> by_cases h9 : mn ≤ l <;> by_cases h10 : l ≤ mx <;> simp [h7, h8, h9, h10]
theorem impl_agg (c s mn mx f l : Int) : impl_AggOK.f c s mn mx f l = some (aggB c s mn mx f l) := by
  rw [← spec_agg]
  unfold impl_AggOK.f spec_AggOK.f impl_isValue.f spec_l02Value.f
  simp only [in_eq, within_eq, Option.bind_some]
  by_cases hc : c = 0
  · subst hc
    by_cases h : s = 0 ∧ mn = 0 ∧ mx = 0 ∧ f = 0 ∧ l = 0
    · obtain ⟨rfl, rfl, rfl, rfl, rfl⟩ := h; simp
    · have e : ((0 : Int) == 0 && (s == 0 && (mn == 0 && (mx == 0 && (f == 0 && (l == 0)))))) = false := by
        rw [Bool.eq_false_iff]; intro h'; apply h; simpa using h'
      rw [e]; simp
  · have hc' : (c == 0) = false := by simp [hc]
    rw [if_neg hc, hc']
    simp
theorem agg_bounds {c s mn mx f l : Int} (h : aggB c s mn mx f l = true) : 0 ≤ c ∧ c ≤ 100000 ∧ -100000000000 ≤ s ∧ s ≤ 100000000000 ∧ -1000000 ≤ mn ∧ mn ≤ 1000000 ∧ -1000000 ≤ mx ∧ mx ≤ 1000000 ∧ -1000000 ≤ f ∧ f ≤ 1000000 ∧ -1000000 ≤ l ∧ l ≤ 1000000 := by
  unfold aggB at h
  simp only [Bool.or_eq_true, Bool.and_eq_true, beq_iff_eq, decide_eq_true_eq] at h
  rcases h with ⟨⟨⟨⟨⟨rfl, rfl⟩, rfl⟩, rfl⟩, rfl⟩, rfl⟩ | ⟨⟨⟨⟨⟨⟨⟨⟨⟨⟨⟨h1, h2⟩, h3⟩, h4⟩, h5⟩, h6⟩, h7⟩, h8⟩, h9⟩, h10⟩, h11⟩, h12⟩
  · decide
  · have a1 := mul_small h1 h2 h3 h4
    have a2 := mul_small h1 h2 h5 h6
    have b1 : -(100000 * 1000000) ≤ c * mn := by
      have h5' : c * (-mn) ≤ 100000 * 1000000 := by
        rcases Int.lt_or_le (-mn) 0 with h | h
        · have : c * (-mn) ≤ 0 := Int.mul_nonpos_of_nonneg_of_nonpos (by omega) (by omega)
          omega
        · exact Int.mul_le_mul h2 (by omega) h (by omega)
      rw [Int.mul_neg] at h5'
      omega
    have b2 : c * mx ≤ 100000 * 1000000 := by
      rcases Int.lt_or_le mx 0 with h | h
      · have : c * mx ≤ 0 := Int.mul_nonpos_of_nonneg_of_nonpos (by omega) (by omega)
        omega
      · exact Int.mul_le_mul h2 h6 h (by omega)
    omega
/-- a right bucket -/
def bkt (x : S99) : Bool := ((decide (0 ≤ x.f0) && decide (x.f0 ≤ 99999)) && aggB x.f1.f0 x.f1.f1 x.f1.f2 x.f1.f3 x.f1.f4 x.f1.f5) && !decide (x.f1.f0 = 0)
/-- right buckets from place i on -/
def riseB (l : List S99) (i : Nat) : Bool := (List.range l.length).all fun j => decide (j < i) || (bkt (l.getD j z99) && (decide (j = 0) || decide ((l.getD (j - 1) z99).f0 < (l.getD j z99).f0)))
theorem riseB_end (l : List S99) : riseB l l.length = true := by
  unfold riseB
  rw [List.all_eq_true]
  intro j hj
  simp [List.mem_range.1 hj]
theorem riseB_step (l : List S99) (i : Nat) (h : i < l.length) : riseB l i = ((bkt l[i] && (decide (i = 0) || decide ((l.getD (i - 1) z99).f0 < l[i].f0))) && riseB l (i + 1)) := by
  have e : l.getD i z99 = l[i] := by rw [List.getD_eq_getElem?_getD, List.getElem?_eq_getElem h]; rfl
  rw [Bool.eq_iff_iff]
  unfold riseB
  rw [Bool.and_eq_true, List.all_eq_true, List.all_eq_true]
  constructor
  · intro hh
    refine ⟨?_, fun j hj => ?_⟩
    · have := hh i (List.mem_range.2 h)
      rw [e] at this
      simpa using this
    · by_cases hji : j < i + 1
      · simp [hji]
      · have h1 : ¬ j < i := by omega
        have := hh j hj
        simp only [h1, hji, decide_false, Bool.false_or] at *
        exact this
  · rintro ⟨h1, h2⟩ j hj
    by_cases hji : j < i
    · simp [hji]
    · by_cases hje : j = i
      · subst hje; rw [e]; simpa using h1
      · have := h2 j hj
        have hn : ¬ j < i + 1 := by omega
        simp only [hn, decide_false, Bool.false_or] at this
        simp only [hji, decide_false, Bool.false_or]
        exact this
theorem bspec_loop (l : List S99) (hl : l.length ≤ 1048576) (d : Nat) : ∀ (k i : Nat), i ≤ l.length → l.length - i = d → 2 * d < k →
    spec_BucketsOK.l0 k l (i : Int) = some (riseB l i && decide ((l.length : Int) ≤ 8)) := by
  induction d with
  | zero =>
    intro k i hi hd hk
    obtain ⟨k, rfl⟩ : ∃ m, k = m + 1 := ⟨k - 1, by omega⟩
    obtain rfl : i = l.length := by omega
    simp only [spec_BucketsOK.l0]
    rw [if_neg (by omega), riseB_end, Bool.true_and]
  | succ d ih =>
    intro k i hi hd hk
    obtain ⟨k, rfl⟩ : ∃ m, k = m + 1 := ⟨k - 1, by omega⟩
    have hlt : i < l.length := by omega
    have h1 := ih k (i + 1) (by omega) (by omega) (by omega)
    simp only [spec_BucketsOK.l0, in_eq, spec_agg, Option.bind_some]
    rw [if_pos (by omega), if_pos (by omega), rd99_at l i hlt, cast_wrap hlt (by omega), h1, riseB_step l i hlt]
    unfold bkt
    generalize (decide (0 ≤ l[i].f0) && decide (l[i].f0 ≤ 99999)) = a
    generalize aggB l[i].f1.f0 l[i].f1.f1 l[i].f1.f2 l[i].f1.f3 l[i].f1.f4 l[i].f1.f5 = b
    generalize riseB l (i + 1) = r
    generalize decide ((l.length : Int) ≤ 8) = m
    cases a with
    | false => simp
    | true =>
      cases b with
      | false => simp
      | true =>
        by_cases hc : l[i].f1.f0 = 0
        · simp [hc]
        · rcases Nat.eq_zero_or_pos i with h0 | h0
          · subst h0; simp [hc]
          · have hw : wrap64 ((i : Int) - 1) = ((i - 1 : Nat) : Int) := by unfold wrap64; omega
            have hp : ((i : Int) > 0) = True := eq_true (by omega)
            have hz : (0 : Int) ≤ ((i - 1 : Nat) : Int) := by omega
            have hq : ((i - 1 : Nat) : Int) < (l.length : Int) := by omega
            have hi0 : decide (i = 0) = false := decide_eq_false (by omega)
            have e1 : rd_T99 l ((i - 1 : Nat) : Int) = l.getD (i - 1) z99 := by unfold rd_T99; rw [Int.toNat_natCast]
            rw [hw, e1, hi0, Bool.false_or]
            simp only [hp, if_true, if_pos hz, if_pos hq, hc, if_false]
            generalize (l.getD (i - 1) z99).f0 = p
            generalize l[i].f0 = q
            by_cases hpq : p < q
            · have e2 : ¬ p ≥ q := by omega
              simp [hpq, e2]
            · have e2 : p ≥ q := by omega
              simp [hpq, e2]
theorem bimpl_loop (l : List S99) (hl : l.length ≤ 8) (d : Nat) : ∀ (k i : Nat), i ≤ l.length → l.length - i = d → 2 * d < k →
    impl_BucketsOK.l0 k l l (l.length : Int) (i : Int) = some (riseB l i) := by
  induction d with
  | zero =>
    intro k i hi hd hk
    obtain ⟨k, rfl⟩ : ∃ m, k = m + 1 := ⟨k - 1, by omega⟩
    obtain rfl : i = l.length := by omega
    simp only [impl_BucketsOK.l0]
    rw [if_neg (by omega), riseB_end]
  | succ d ih =>
    intro k i hi hd hk
    obtain ⟨k, rfl⟩ : ∃ m, k = m + 1 := ⟨k - 1, by omega⟩
    have hlt : i < l.length := by omega
    have h1 := ih k (i + 1) (by omega) (by omega) (by omega)
    simp only [impl_BucketsOK.l0, impl_isMoment.f, within_eq, impl_agg, Option.bind_some]
    rw [if_pos (by omega), if_pos (by omega), if_pos (by omega), if_neg (by omega), rd99_at l i hlt, cast_wrap hlt (by omega), h1, riseB_step l i hlt]
    unfold bkt
    generalize (decide (0 ≤ l[i].f0) && decide (l[i].f0 ≤ 99999)) = a
    generalize aggB l[i].f1.f0 l[i].f1.f1 l[i].f1.f2 l[i].f1.f3 l[i].f1.f4 l[i].f1.f5 = b
    generalize riseB l (i + 1) = r
    cases a with
    | false => simp
    | true =>
      cases b with
      | false => simp
      | true =>
        by_cases hc : l[i].f1.f0 = 0
        · simp [hc]
        · rcases Nat.eq_zero_or_pos i with h0 | h0
          · subst h0; simp [hc]
          · have hw : wrap64 ((i : Int) - 1) = ((i - 1 : Nat) : Int) := by unfold wrap64; omega
            have hp : ((i : Int) > 0) = True := eq_true (by omega)
            have hz : (0 : Int) ≤ ((i - 1 : Nat) : Int) := by omega
            have hq : ((i - 1 : Nat) : Int) < (l.length : Int) := by omega
            have hi0 : decide (i = 0) = false := decide_eq_false (by omega)
            have e1 : rd_T99 l ((i - 1 : Nat) : Int) = l.getD (i - 1) z99 := by unfold rd_T99; rw [Int.toNat_natCast]
            rw [hw, e1, hi0, Bool.false_or]
            simp only [hp, if_true, if_pos hz, if_pos hq, hc, if_false]
            generalize (l.getD (i - 1) z99).f0 = p
            generalize l[i].f0 = q
            by_cases hpq : p < q
            · have e2 : ¬ q ≤ p := by omega
              simp [hpq, e2]
            · have e2 : q ≤ p := by omega
              simp [hpq, e2]
/-- more than eight: false at the ninth at the latest -/
theorem bimpl_long (l : List S99) (hl : 8 < l.length) (d : Nat) : ∀ (k i : Nat), i ≤ 8 → 8 - i = d → 2 * d + 2 ≤ k → impl_BucketsOK.l0 k l l (l.length : Int) (i : Int) = some false := by
  induction d with
  | zero =>
    intro k i hi hd hk
    obtain ⟨k, rfl⟩ : ∃ m, k = m + 1 := ⟨k - 1, by omega⟩
    obtain rfl : i = 8 := by omega
    simp only [impl_BucketsOK.l0]
    rw [if_pos (by omega), if_pos (by omega), if_pos (by omega), if_pos (by omega)]
  | succ d ih =>
    intro k i hi hd hk
    obtain ⟨k, rfl⟩ : ∃ m, k = m + 1 := ⟨k - 1, by omega⟩
    have hlt : i < l.length := by omega
    have h1 := ih k (i + 1) (by omega) (by omega) (by omega)
    have hcw : wrap64 ((i : Int) + 1) = ((i + 1 : Nat) : Int) := by unfold wrap64; omega
    simp only [impl_BucketsOK.l0, impl_isMoment.f, within_eq, impl_agg, Option.bind_some]
    rw [if_pos (by omega), if_pos (by omega), if_pos (by omega), if_neg (by omega), hcw, h1]
    have hpr : ∀ (x : Prop) [Decidable x], (if x then some false else some false) = (some false : Option Bool) := fun x _ => by split <;> rfl
    by_cases h0 : (i : Int) > 0
    · have hw : wrap64 ((i : Int) - 1) = ((i - 1 : Nat) : Int) := by unfold wrap64; omega
      have hz : (0 : Int) ≤ ((i - 1 : Nat) : Int) := by omega
      have hq : ((i - 1 : Nat) : Int) < (l.length : Int) := by omega
      rw [hw]
      simp only [if_pos h0, if_pos hz, if_pos hq, hpr]
    · simp only [if_neg h0, hpr]
def bokB (l : List S99) : Bool := riseB l 0 && decide ((l.length : Int) ≤ 8)
theorem bok_eq (l : List S99) (hl : l.length ≤ 1048576) (k : Nat) (hk : 2 * l.length + 20 < k) : spec_BucketsOK.f k l = some (bokB l) ∧ impl_BucketsOK.f k l = some (bokB l) := by
  have h1 := bspec_loop l hl l.length k 0 (by omega) (by omega) (by omega)
  unfold spec_BucketsOK.f impl_BucketsOK.f bokB
  constructor
  · by_cases h : (l.length : Int) > 4096
    · rw [if_pos h]
      have : decide ((l.length : Int) ≤ 8) = false := decide_eq_false (by omega)
      rw [this, Bool.and_false]
    · rw [if_neg h]; exact h1
  · by_cases h8 : l.length ≤ 8
    · have h2 := bimpl_loop l h8 l.length k 0 (by omega) (by omega) (by omega)
      have : decide ((l.length : Int) ≤ 8) = true := decide_eq_true (by omega)
      rw [this, Bool.and_true]
      exact h2
    · have h2 := bimpl_long l (by omega) 8 k 0 (by omega) (by omega) (by omega)
      have : decide ((l.length : Int) ≤ 8) = false := decide_eq_false (by omega)
      rw [this, Bool.and_false]
      exact h2
theorem merged_total (c s mn mx f l c' s' mn' mx' f' l' : Int) : ∃ r, spec_l02Merge.f c s mn mx f l c' s' mn' mx' f' l' = some r := by
  unfold spec_l02Merge.f
  by_cases h : c = 0
  · rw [if_pos h]; exact ⟨_, rfl⟩
  · rw [if_neg h]
    by_cases h' : c' = 0
    · rw [if_pos h']; exact ⟨_, rfl⟩
    · rw [if_neg h']; exact ⟨_, rfl⟩
theorem merged_same (c s mn mx f l c' s' mn' mx' f' l' : Int) : impl_Agg_merged.f c s mn mx f l c' s' mn' mx' f' l' = spec_l02Merge.f c s mn mx f l c' s' mn' mx' f' l' := rfl
theorem fold_loops (l : List S99) (hl : l.length ≤ 1048576) (a b : Int) (d : Nat) : ∀ (k i : Nat) (n x0 x1 x2 x3 x4 x5 : Int), i ≤ l.length → l.length - i = d → d < k →
    ∃ c m, spec_l04Count.l0 k l n (i : Int) = some c ∧ spec_l04Fold.l0 k l a b (i : Int) x0 x1 x2 x3 x4 x5 = some m ∧
      impl_fold.l0 k a b n l (l.length : Int) (i : Int) x0 x1 x2 x3 x4 x5 = some (if c > 100000 then (0, 0, 0, 0, 0, 0, 6) else (m.1, m.2.1, m.2.2.1, m.2.2.2.1, m.2.2.2.2.1, m.2.2.2.2.2, 0)) := by
  induction d with
  | zero =>
    intro k i n x0 x1 x2 x3 x4 x5 hi hd hk
    obtain ⟨k, rfl⟩ : ∃ m, k = m + 1 := ⟨k - 1, by omega⟩
    have hn : ¬ (i : Int) < (l.length : Int) := by omega
    refine ⟨n, (x0, x1, x2, x3, x4, x5), ?_, ?_, ?_⟩
    · simp only [spec_l04Count.l0]; rw [if_neg hn]
    · simp only [spec_l04Fold.l0]; rw [if_neg hn]
    · simp only [impl_fold.l0]; rw [if_neg hn]
      by_cases h : n > 100000
      · rw [if_pos h, if_pos h]
      · rw [if_neg h, if_neg h]
  | succ d ih =>
    intro k i n x0 x1 x2 x3 x4 x5 hi hd hk
    obtain ⟨k, rfl⟩ : ∃ m, k = m + 1 := ⟨k - 1, by omega⟩
    have hlt : i < l.length := by omega
    have e1 : ((i : Int) < (l.length : Int)) = True := eq_true (by omega)
    have e3 : ((0 : Int) ≤ (i : Int)) = True := eq_true (by omega)
    simp only [spec_l04Count.l0, spec_l04Fold.l0, impl_fold.l0, e1, e3, if_true, cast_wrap hlt (by omega : l.length ≤ 140737488351232), within_eq, in_eq, Option.bind_some, merged_same]
    generalize (rd_T99 l (i : Int)) = e
    cases (decide (a ≤ e.f0) && decide (e.f0 ≤ wrap64 (b - 1))) with
    | false =>
      simp only [Bool.false_eq_true, if_false]
      exact ih k (i + 1) _ x0 x1 x2 x3 x4 x5 (by omega) (by omega) (by omega)
    | true =>
      obtain ⟨m, hm⟩ := merged_total x0 x1 x2 x3 x4 x5 e.f1.f0 e.f1.f1 e.f1.f2 e.f1.f3 e.f1.f4 e.f1.f5
      simp only [if_true, hm, Option.bind_some]
      exact ih k (i + 1) _ _ _ _ _ _ _ (by omega) (by omega) (by omega)
theorem range_same (a b : Int) : ∃ r, spec_l04Range.f a b = some r ∧ impl_isRange.f a b = some r := by
  unfold spec_l04Range.f impl_isRange.f
  simp only [in_eq, Option.bind_some]
  by_cases h1 : 0 ≤ a
  · by_cases h2 : a ≤ b
    · by_cases h3 : b ≤ 100000
      · have h4 : a ≤ 100000 := by omega
        exact ⟨true, by simp [h1, h2, h3, h4], by simp [h1, h2, h3]⟩
      · refine ⟨false, ?_, by simp [h1, h2, h3]⟩
        by_cases h4 : a ≤ 100000 <;> simp [h1, h3, h4]
    · refine ⟨false, ?_, by simp [h1, h2]⟩
      by_cases h4 : a ≤ 100000 <;> simp [h1, h2, h4]
  · exact ⟨false, by simp [h1], by simp [h1]⟩
theorem ru_same (l : List S99) (hl : l.length ≤ 1048576) (a b : Int) (k : Nat) (hk : 2 * l.length + 20 < k) : ∃ r, spec_RollUp.f k l a b = some r ∧ impl_RollUp.f k l a b = some r ∧ (r.1 = [] ∨ ∃ e, r.1 = [e]) := by
  obtain ⟨k', rfl⟩ : ∃ k', k = k' + 4 := ⟨k - 4, by omega⟩
  obtain ⟨hb1, hb2⟩ := bok_eq l hl (k' + 4) hk
  obtain ⟨g, hr1, hr2⟩ := range_same a b
  obtain ⟨c, m, h1, h2, h3⟩ := fold_loops l hl a b l.length (k' + 4) 0 0 0 0 0 0 0 0 (by omega) (by omega) (by omega)
  have h1 : spec_l04Count.f (k' + 4) l = some c := h1
  have h2 : spec_l04Fold.f (k' + 4) l a b = some m := h2
  have h3 : impl_fold.f (k' + 4) l a b = _ := h3
  unfold spec_RollUp.f impl_RollUp.f spec_l04Up.f impl_FoldRange.f spec_l04Ask.f impl_Bucket.f
  simp only [Option.bind_some, hb1, hb2, hr1, hr2, h1, h2, h3, first3]
  by_cases hlen : (l.length : Int) > 4096
  · exact ⟨([], 2), by rw [if_pos hlen], by simp [hlen], Or.inl rfl⟩
  · have hd : decide ((l.length : Int) > 4096) = false := decide_eq_false hlen
    rw [hd]
    simp only [if_neg hlen]
    cases bokB l with
    | false => exact ⟨([], 1), by simp, by simp, Or.inl rfl⟩
    | true =>
      cases g with
      | false => exact ⟨([], 4), by simp, by simp, Or.inl rfl⟩
      | true =>
        by_cases hc : c > 100000
        · exact ⟨([], 6), by simp [hc], by simp [hc], Or.inl rfl⟩
        · by_cases hm : m.1 = 0
          · exact ⟨([], 0), by simp [hc, hm], by simp [hc, hm, impl_bucketOf.f], Or.inl rfl⟩
          · exact ⟨([⟨a, ⟨m.1, m.2.1, m.2.2.1, m.2.2.2.1, m.2.2.2.2.1, m.2.2.2.2.2⟩⟩], 0), by simp [hc, hm], by simp [hc, hm, impl_bucketOf.f], Or.inr ⟨_, rfl⟩⟩
theorem FnExactRollUp : laws_FnExactRollUp.Pure := by
  intro l a b ⟨hm, hn, _⟩ _ _
  obtain ⟨k, hk⟩ : ∃ k : Nat, k = 3000000 := ⟨_, rfl⟩
  refine ⟨k + 1 + 1 + 1, ?_⟩
  unfold laws_FnExactRollUp.f
  rw [szBucketS_tot l 1048576 (by omega) (by omega) (by omega)]
  by_cases hs : (1048576 : Int) - (l.length : Int) < 0
  · rw [if_pos hs]; simp
  · rw [if_neg hs]
    have hl : l.length ≤ 1048576 := by omega
    have hc : (l.map cvBucket).length = l.length := by simp
    obtain ⟨r, h1, h2, h3⟩ := ru_same (l.map cvBucket) (by omega) a b (k + 1) (by omega)
    have h1b := spec_RollUp.mono _ _ _ (k + 1 + 1) r (spec_RollUp.mono _ _ _ (k + 1) r h1)
    have h2b := impl_RollUp.mono _ _ _ (k + 1 + 1) r (impl_RollUp.mono _ _ _ (k + 1) r h2)
    have hr : r.1.length ≤ 1 := by rcases h3 with h | ⟨e, h⟩ <;> rw [h] <;> simp
    have hne : (r.2 != r.2) = false := by simp
    have hk0 : ((1 : Int) + 7 * ((l.map cvBucket).length : Int) < 0) = False := eq_false (by omega)
    have hm0 : ((1 : Int) + 7 * (r.1.length : Int) < 0) = False := eq_false (by omega)
    simp only [Option.bind_some, hs, if_false, toBucketS_eq l hl (k + 1 + 1 + 1) (by omega), h1b, h2b, eqBucketS_same r.1 (by omega) (k + 1 + 1 + 1) (by omega), if_true, hne, laws_FnExactRollUp.j0, Bool.false_eq_true,
      toBucketS_eq l hl (k + 1 + 1) (by omega), eqBucketS_same (l.map cvBucket) (by omega) (k + 1 + 1) (by omega), markBucketS_eq (l.map cvBucket) 1 (k + 1 + 1) (by omega) (by omega) (by omega) (by omega), hk0,
      eqBucketS_same r.1 (by omega) (k + 1 + 1) (by omega), laws_FnExactRollUp.j1, markBucketS_eq r.1 1 (k + 1) (by omega) (by omega) (by omega) (by omega), heldBucketS_eq r.1.length 1 (k + 1) (by omega) (by omega) (by omega) (by omega), hm0,
      toBucketS_eq l hl (k + 1) (by omega), h2, eqBucketS_same r.1 (by omega) (k + 1) (by omega), laws_FnExactRollUp.j2, heldBucketS_eq r.1.length 1 k (by omega) (by omega) (by omega) (by omega)]

end Go.Proofs.Ytcdkphafiibpcaa.Pure
