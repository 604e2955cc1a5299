/- The pure law of FnExactDownsample: what the printed functions compute answers true for every input of the kinds and sizes that the statement gives. -/
import Derived.Test.YtcdkphafiibpcaaKinFnExactDownsample
namespace Go.Proofs.Ytcdkphafiibpcaa.Pure
open Go.RowKit Go.Proofs.YtcdkphafiibpcaaW.PrintWords Go.Proofs.YtcdkphafiibpcaaW.PrintLast Go.Proofs.Ytcdkphafiibpcaa.XFnExactDownsample
set_option linter.unusedSimpArgs false
set_option linter.unusedVariables false

-- BODY
/-- list places, as the printed loops spell them -/
theorem cast_wrap {i n : Nat} (h : i < n) (hn : n ≤ 140737488351232) : wrap64 ((i : Int) + 1) = ((i + 1 : Nat) : Int) := by unfold wrap64; omega
theorem take_set_succ {α : Type} (l : List α) (i : Nat) (v : α) (h : i < l.length) : (l.set i v).take (i + 1) = l.take i ++ [v] := by
  rw [List.take_succ_eq_append_getElem (by simpa using h)]
  simp only [List.take_set, List.getElem_set_self]
  rw [List.set_eq_of_length_le (by simp; omega)]
theorem rd89_at (l : List S89) (i : Nat) (h : i < l.length) : rd_T89 l (i : Int) = l[i] := by
  unfold rd_T89; rw [Int.toNat_natCast, List.getD_eq_getElem?_getD, List.getElem?_eq_getElem h]; rfl
theorem rd91_at (l : List S91) (i : Nat) (h : i < l.length) : rd_T91 l (i : Int) = l[i] := by
  unfold rd_T91; rw [Int.toNat_natCast, List.getD_eq_getElem?_getD, List.getElem?_eq_getElem h]; rfl
def cvSample (x : S91) : S89 := ⟨x.f0, x.f1⟩
theorem toSampleS_loop (l : List S91) (hl : l.length ≤ 1048576) (d : Nat) : ∀ (k i : Nat) (x : List S89), x.length = l.length → i ≤ l.length → l.length - i = d → d < k →
    laws_toSampleS.l0 k l x (i : Int) = some (x.take i ++ (l.drop i).map cvSample) := by
  induction d with
  | zero =>
    intro k i x hx hi hd hk
    obtain ⟨k, rfl⟩ : ∃ m, k = m + 1 := ⟨k - 1, by omega⟩
    obtain rfl : i = l.length := by omega
    simp only [laws_toSampleS.l0]
    rw [if_neg (by omega), List.drop_length, List.map_nil, List.append_nil, ← hx, List.take_length]
  | succ d ih =>
    intro k i x hx hi hd hk
    obtain ⟨k, rfl⟩ : ∃ m, k = m + 1 := ⟨k - 1, by omega⟩
    have hlt : i < l.length := by omega
    simp only [laws_toSampleS.l0, laws_toSample.f, Option.bind_some]
    rw [if_pos (by omega), if_pos (by omega), if_pos (by omega), rd91_at l i hlt, cast_wrap hlt (by omega), ih k (i + 1) _ (by simpa using hx) (by omega) (by omega) (by omega), Int.toNat_natCast, take_set_succ _ _ _ (by omega),
      List.drop_eq_getElem_cons hlt, List.map_cons, List.append_assoc]
    rfl
theorem toSampleS_eq (l : List S91) (hl : l.length ≤ 1048576) (k : Nat) (hk : l.length < k) : laws_toSampleS.f k l = some (l.map cvSample) := by
  unfold laws_toSampleS.f
  rw [if_pos (by omega), if_pos (by omega)]
  have := toSampleS_loop l hl l.length k 0 (List.replicate ((l.length : Int)).toNat z89) (by simp) (by omega) (by omega) hk
  refine Eq.trans this ?_
  simp
theorem eqSample_same (x0 : Int) (x1 : Int) : laws_eqSample.f x0 x1 x0 x1 = some true := by simp [laws_eqSample.f]
theorem eqSampleS_loop (a : List S89) (hl : a.length ≤ 1048576) (d : Nat) : ∀ (k i : Nat), i ≤ a.length → a.length - i = d → d < k → laws_eqSampleS.l0 k a a (i : Int) = some true := by
  induction d with
  | zero =>
    intro k i hi hd hk
    obtain ⟨k, rfl⟩ : ∃ m, k = m + 1 := ⟨k - 1, by omega⟩
    simp only [laws_eqSampleS.l0]
    rw [if_neg (by omega)]
  | succ d ih =>
    intro k i hi hd hk
    obtain ⟨k, rfl⟩ : ∃ m, k = m + 1 := ⟨k - 1, by omega⟩
    have hlt : i < a.length := by omega
    simp only [laws_eqSampleS.l0]
    rw [if_pos (by omega), if_pos (by omega), if_pos (by omega), eqSample_same, cast_wrap hlt (by omega), ih k (i + 1) (by omega) (by omega) (by omega)]
    simp
theorem eqSampleS_same (a : List S89) (hl : a.length ≤ 1048576) (k : Nat) (hk : a.length < k) : laws_eqSampleS.f k a a = some true := by
  unfold laws_eqSampleS.f
  rw [if_pos rfl]
  exact eqSampleS_loop a hl a.length k 0 (by omega) (by omega) hk
/-- the mark of an element -/
def mkSample (m : Int) : S89 := ⟨m, m + 1⟩
def marksSample : Nat → Int → List S89
  | 0, _ => []
  | d + 1, m => mkSample m :: marksSample d (m + 1 + 1)
theorem markSampleS_loop (d : Nat) : ∀ (k i : Nat) (l : List S89) (m : Int), i ≤ l.length → l.length - i = d → d + 20 < k → l.length ≤ 1048576 → 0 ≤ m → m + 2 * d ≤ 100000000000000 →
    laws_markSampleS.l0 k l m (i : Int) = some (m + 2 * d, l.take i ++ marksSample d m) := by
  induction d with
  | zero =>
    intro k i l m hi hd hk hl h0 hm
    obtain ⟨k, rfl⟩ : ∃ m, k = m + 1 := ⟨k - 1, by omega⟩
    obtain rfl : i = l.length := by omega
    simp only [laws_markSampleS.l0]
    rw [if_neg (by omega)]
    simp [marksSample]
  | succ d ih =>
    intro k i l m hi hd hk hl h0 hm
    obtain ⟨k, rfl⟩ : ∃ m, k = m + 1 := ⟨k - 1, by omega⟩
    have hlt : i < l.length := by omega
    have hc : ((d + 1 : Nat) : Int) = (d : Int) + 1 := by omega
    rw [hc] at hm
    have w1 : wrap64 (m + 1) = m + 1 := by unfold wrap64; omega
    have w2 : wrap64 (m + 1 + 1) = m + 1 + 1 := by unfold wrap64; omega
    have rs : ∀ (l : List S89) (v : S89), i < l.length → rd_T89 (l.set i v) (i : Int) = v := fun l v h => by rw [rd89_at _ _ (by simpa using h), List.getElem_set_self]
    simp only [laws_markSampleS.l0, Option.bind_some, Int.toNat_natCast, w1, w2]
    rw [if_pos (by omega), if_pos (by omega)]
    simp only [List.set_set, List.length_set, rs _ _ hlt, rd89_at l i hlt, cast_wrap hlt (by omega)]
    rw [ih k (i + 1) _ (m + 1 + 1) (by simp; omega) (by simp; omega) (by omega) (by simpa using hl) (by omega) (by omega), take_set_succ _ _ _ hlt, List.append_assoc]
    simp only [marksSample, List.singleton_append, Option.some.injEq, Prod.mk.injEq]
    exact ⟨by omega, rfl⟩
theorem markSampleS_eq (l : List S89) (m : Int) (k : Nat) (hk : l.length + 20 < k) (hl : l.length ≤ 1048576) (h0 : 0 ≤ m) (hm : m + 2 * l.length ≤ 100000000000000) : laws_markSampleS.f k l m = some (m + 2 * l.length, marksSample l.length m) := by
  have := markSampleS_loop l.length k 0 l m (by omega) (by omega) hk hl h0 hm
  unfold laws_markSampleS.f
  refine Eq.trans this ?_
  simp
theorem marksSample_length : ∀ (d : Nat) (m : Int), (marksSample d m).length = d
  | 0, _ => rfl
  | d + 1, m => by simp [marksSample, marksSample_length d]
theorem szSampleS_tot (l : List S91) (a : Int) (h0 : 0 ≤ a) (h1 : a ≤ 1048576) (hl : l.length ≤ 140737488351232) : laws_szSampleS.f l a = some (if a - l.length < 0 then -1 else a - l.length) := by
  unfold laws_szSampleS.f
  have hw : wrap64 (a - (l.length : Int)) = a - (l.length : Int) := by unfold wrap64; omega
  rw [hw]
  by_cases h : a - (l.length : Int) < 0
  · rw [if_pos h, if_pos h]
  · rw [if_neg h, if_neg h]
theorem rd99_at (l : List S99) (i : Nat) (h : i < l.length) : rd_T99 l (i : Int) = l[i] := by
  unfold rd_T99; rw [Int.toNat_natCast, List.getD_eq_getElem?_getD, List.getElem?_eq_getElem h]; rfl
theorem eqBucket_same (x0 : Int) (x1 : Int) (x2 : Int) (x3 : Int) (x4 : Int) (x5 : Int) (x6 : Int) : laws_eqBucket.f x0 x1 x2 x3 x4 x5 x6 x0 x1 x2 x3 x4 x5 x6 = some true := by simp [laws_eqBucket.f, laws_eqAgg.f]
theorem eqBucketS_loop (a : List S99) (hl : a.length ≤ 1048576) (d : Nat) : ∀ (k i : Nat), i ≤ a.length → a.length - i = d → d < k → laws_eqBucketS.l0 k a a (i : Int) = some true := by
  induction d with
  | zero =>
    intro k i hi hd hk
    obtain ⟨k, rfl⟩ : ∃ m, k = m + 1 := ⟨k - 1, by omega⟩
    simp only [laws_eqBucketS.l0]
    rw [if_neg (by omega)]
  | succ d ih =>
    intro k i hi hd hk
    obtain ⟨k, rfl⟩ : ∃ m, k = m + 1 := ⟨k - 1, by omega⟩
    have hlt : i < a.length := by omega
    simp only [laws_eqBucketS.l0]
    rw [if_pos (by omega), if_pos (by omega), if_pos (by omega), eqBucket_same, cast_wrap hlt (by omega), ih k (i + 1) (by omega) (by omega) (by omega)]
    simp
theorem eqBucketS_same (a : List S99) (hl : a.length ≤ 1048576) (k : Nat) (hk : a.length < k) : laws_eqBucketS.f k a a = some true := by
  unfold laws_eqBucketS.f
  rw [if_pos rfl]
  exact eqBucketS_loop a hl a.length k 0 (by omega) (by omega) hk
/-- the mark of an element -/
def mkBucket (m : Int) : S99 := ⟨m, ⟨m + 1, m + 1 + 1, m + 1 + 1 + 1, m + 1 + 1 + 1 + 1, m + 1 + 1 + 1 + 1 + 1, m + 1 + 1 + 1 + 1 + 1 + 1⟩⟩
def marksBucket : Nat → Int → List S99
  | 0, _ => []
  | d + 1, m => mkBucket m :: marksBucket d (m + 1 + 1 + 1 + 1 + 1 + 1 + 1)
theorem markBucketS_loop (d : Nat) : ∀ (k i : Nat) (l : List S99) (m : Int), i ≤ l.length → l.length - i = d → d + 20 < k → l.length ≤ 1048576 → 0 ≤ m → m + 7 * d ≤ 100000000000000 →
    laws_markBucketS.l0 k l m (i : Int) = some (m + 7 * d, l.take i ++ marksBucket d m) := by
  induction d with
  | zero =>
    intro k i l m hi hd hk hl h0 hm
    obtain ⟨k, rfl⟩ : ∃ m, k = m + 1 := ⟨k - 1, by omega⟩
    obtain rfl : i = l.length := by omega
    simp only [laws_markBucketS.l0]
    rw [if_neg (by omega)]
    simp [marksBucket]
  | succ d ih =>
    intro k i l m hi hd hk hl h0 hm
    obtain ⟨k, rfl⟩ : ∃ m, k = m + 1 := ⟨k - 1, by omega⟩
    have hlt : i < l.length := by omega
    have hc : ((d + 1 : Nat) : Int) = (d : Int) + 1 := by omega
    rw [hc] at hm
    have w1 : wrap64 (m + 1) = m + 1 := by unfold wrap64; omega
    have w2 : wrap64 (m + 1 + 1) = m + 1 + 1 := by unfold wrap64; omega
    have w3 : wrap64 (m + 1 + 1 + 1) = m + 1 + 1 + 1 := by unfold wrap64; omega
    have w4 : wrap64 (m + 1 + 1 + 1 + 1) = m + 1 + 1 + 1 + 1 := by unfold wrap64; omega
    have w5 : wrap64 (m + 1 + 1 + 1 + 1 + 1) = m + 1 + 1 + 1 + 1 + 1 := by unfold wrap64; omega
    have w6 : wrap64 (m + 1 + 1 + 1 + 1 + 1 + 1) = m + 1 + 1 + 1 + 1 + 1 + 1 := by unfold wrap64; omega
    have w7 : wrap64 (m + 1 + 1 + 1 + 1 + 1 + 1 + 1) = m + 1 + 1 + 1 + 1 + 1 + 1 + 1 := by unfold wrap64; omega
    have rs : ∀ (l : List S99) (v : S99), i < l.length → rd_T99 (l.set i v) (i : Int) = v := fun l v h => by rw [rd99_at _ _ (by simpa using h), List.getElem_set_self]
    simp only [laws_markBucketS.l0, Option.bind_some, Int.toNat_natCast, w1, w2, w3, w4, w5, w6, w7]
    rw [if_pos (by omega), if_pos (by omega)]
    simp only [List.set_set, List.length_set, rs _ _ hlt, rd99_at l i hlt, cast_wrap hlt (by omega)]
    rw [ih k (i + 1) _ (m + 1 + 1 + 1 + 1 + 1 + 1 + 1) (by simp; omega) (by simp; omega) (by omega) (by simpa using hl) (by omega) (by omega), take_set_succ _ _ _ hlt, List.append_assoc]
    simp only [marksBucket, List.singleton_append, Option.some.injEq, Prod.mk.injEq]
    exact ⟨by omega, rfl⟩
theorem markBucketS_eq (l : List S99) (m : Int) (k : Nat) (hk : l.length + 20 < k) (hl : l.length ≤ 1048576) (h0 : 0 ≤ m) (hm : m + 7 * l.length ≤ 100000000000000) : laws_markBucketS.f k l m = some (m + 7 * l.length, marksBucket l.length m) := by
  have := markBucketS_loop l.length k 0 l m (by omega) (by omega) hk hl h0 hm
  unfold laws_markBucketS.f
  refine Eq.trans this ?_
  simp
theorem marksBucket_length : ∀ (d : Nat) (m : Int), (marksBucket d m).length = d
  | 0, _ => rfl
  | d + 1, m => by simp [marksBucket, marksBucket_length d]
theorem heldBucketS_loop (d : Nat) : ∀ (k : Nat) (p : List S99) (m : Int), d + 20 < k → p.length + d ≤ 1048576 → 0 ≤ m → m + 7 * d ≤ 100000000000000 → laws_heldBucketS.l0 k (p ++ marksBucket d m) m (p.length : Int) = some (m + 7 * d) := by
  induction d with
  | zero =>
    intro k p m hk hl h0 hm
    obtain ⟨k, rfl⟩ : ∃ m, k = m + 1 := ⟨k - 1, by omega⟩
    simp only [laws_heldBucketS.l0, marksBucket, List.append_nil]
    rw [if_neg (by omega)]
    simp
  | succ d ih =>
    intro k p m hk hl h0 hm
    obtain ⟨k, rfl⟩ : ∃ m, k = m + 1 := ⟨k - 1, by omega⟩
    have hc : ((d + 1 : Nat) : Int) = (d : Int) + 1 := by omega
    rw [hc] at hm
    have hlen : (p ++ marksBucket (d + 1) m).length = p.length + (d + 1) := by rw [List.length_append, marksBucket_length]
    have hlt : p.length < (p ++ marksBucket (d + 1) m).length := by omega
    have hat : rd_T99 (p ++ marksBucket (d + 1) m) (p.length : Int) = mkBucket m := by rw [rd99_at _ _ hlt]; simp [marksBucket]
    have w1 : wrap64 (m + 1) = m + 1 := by unfold wrap64; omega
    have w2 : wrap64 (m + 1 + 1) = m + 1 + 1 := by unfold wrap64; omega
    have w3 : wrap64 (m + 1 + 1 + 1) = m + 1 + 1 + 1 := by unfold wrap64; omega
    have w4 : wrap64 (m + 1 + 1 + 1 + 1) = m + 1 + 1 + 1 + 1 := by unfold wrap64; omega
    have w5 : wrap64 (m + 1 + 1 + 1 + 1 + 1) = m + 1 + 1 + 1 + 1 + 1 := by unfold wrap64; omega
    have w6 : wrap64 (m + 1 + 1 + 1 + 1 + 1 + 1) = m + 1 + 1 + 1 + 1 + 1 + 1 := by unfold wrap64; omega
    have w7 : wrap64 (m + 1 + 1 + 1 + 1 + 1 + 1 + 1) = m + 1 + 1 + 1 + 1 + 1 + 1 + 1 := by unfold wrap64; omega
    have hn := ih k (p ++ [mkBucket m]) (m + 1 + 1 + 1 + 1 + 1 + 1 + 1) (by omega) (by simp; omega) (by omega) (by omega)
    rw [List.append_assoc, List.singleton_append, show (((p ++ [mkBucket m]).length : Nat) : Int) = ((p.length + 1 : Nat) : Int) from by simp] at hn
    simp only [laws_heldBucketS.l0, Option.bind_some, w1, w2, w3, w4, w5, w6, w7, hat]
    rw [if_pos (by omega), if_pos (by omega), cast_wrap hlt (by omega)]
    simp only [mkBucket, ne_eq, not_true_eq_false, if_true, if_false]
    refine Eq.trans hn ?_
    rw [hc]
    exact congrArg some (by omega)
theorem heldBucketS_eq (n : Nat) (m : Int) (k : Nat) (hk : n + 20 < k) (hl : n ≤ 1048576) (h0 : 0 ≤ m) (hm : m + 7 * n ≤ 100000000000000) : laws_heldBucketS.f k (marksBucket n m) m = some (m + 7 * n) := by
  have := heldBucketS_loop n k [] m hk (by simpa using hl) h0 hm
  unfold laws_heldBucketS.f
  exact this
theorem within_eq (a b c : Int) : impl_within.f a b c = some (decide (b ≤ a) && decide (a ≤ c)) := by
  unfold impl_within.f; by_cases h : b ≤ a <;> simp [h]
theorem in_eq (a b c : Int) : spec_l01In.f a b c = some (decide (b ≤ a) && decide (a ≤ c)) := by
  unfold spec_l01In.f; by_cases h : b ≤ a <;> simp [h]
/-- a right sample -/
def smp (x : S89) : Bool := (decide (0 ≤ x.f0) && decide (x.f0 ≤ 99999)) && (decide (-1000000 ≤ x.f1) && decide (x.f1 ≤ 1000000))
/-- right samples from place i on: each is right, and later than the one ahead of it -/
def rise (l : List S89) (i : Nat) : Bool := (List.range l.length).all fun j => decide (j < i) || (smp (l.getD j z89) && (decide (j = 0) || decide ((l.getD (j - 1) z89).f0 < (l.getD j z89).f0)))
theorem rise_end (l : List S89) : rise l l.length = true := by
  unfold rise
  rw [List.all_eq_true]
  intro j hj
  simp [List.mem_range.1 hj]
theorem rise_step (l : List S89) (i : Nat) (h : i < l.length) : rise l i = ((smp l[i] && (decide (i = 0) || decide ((l.getD (i - 1) z89).f0 < l[i].f0))) && rise l (i + 1)) := by
  have e : l.getD i z89 = l[i] := by rw [List.getD_eq_getElem?_getD, List.getElem?_eq_getElem h]; rfl
  rw [Bool.eq_iff_iff]
  unfold rise
  rw [Bool.and_eq_true, List.all_eq_true, List.all_eq_true]
  constructor
  · intro hh
    refine ⟨?_, fun j hj => ?_⟩
    · have := hh i (List.mem_range.2 h)
      rw [e] at this
      simpa using this
    · by_cases hji : j < i + 1
      · simp [hji]
      · have h1 : ¬ j < i := by omega
        have := hh j hj
        simp only [h1, hji, decide_false, Bool.false_or] at *
        exact this
  · rintro ⟨h1, h2⟩ j hj
    by_cases hji : j < i
    · simp [hji]
    · by_cases hje : j = i
      · subst hje; rw [e]; simpa using h1
      · have := h2 j hj
        have hn : ¬ j < i + 1 := by omega
        simp only [hn, decide_false, Bool.false_or] at this
        simp only [hji, decide_false, Bool.false_or]
        exact this
theorem sok_loops (l : List S89) (hl : l.length ≤ 1048576) (d : Nat) : ∀ (k i : Nat), i ≤ l.length → l.length - i = d → d < k →
    spec_SamplesOK.l0 k l (i : Int) = some (rise l i) ∧ impl_SamplesOK.l0 k l l (l.length : Int) (i : Int) = some (rise l i) := by
  induction d with
  | zero =>
    intro k i hi hd hk
    obtain ⟨k, rfl⟩ : ∃ m, k = m + 1 := ⟨k - 1, by omega⟩
    obtain rfl : i = l.length := by omega
    simp only [spec_SamplesOK.l0, impl_SamplesOK.l0]
    rw [if_neg (by omega), if_neg (by omega), rise_end]
    exact ⟨rfl, rfl⟩
  | succ d ih =>
    intro k i hi hd hk
    obtain ⟨k, rfl⟩ : ∃ m, k = m + 1 := ⟨k - 1, by omega⟩
    have hlt : i < l.length := by omega
    obtain ⟨h1, h2⟩ := ih k (i + 1) (by omega) (by omega) (by omega)
    have e1 : ((i : Int) < (l.length : Int)) = True := eq_true (by omega)
    have e3 : ((0 : Int) ≤ (i : Int)) = True := eq_true (by omega)
    simp only [spec_SamplesOK.l0, impl_SamplesOK.l0, spec_l02Sample.f, impl_isMoment.f, impl_isValue.f, within_eq, in_eq, Option.bind_some, e1, e3, if_true]
    rw [rd89_at l i hlt, cast_wrap hlt (by omega), h1, h2, rise_step l i hlt]
    rcases Nat.eq_zero_or_pos i with h0 | h0
    · subst h0
      unfold smp
      cases (decide (0 ≤ l[0].f0) && decide (l[0].f0 ≤ 99999)) <;> cases (decide (-1000000 ≤ l[0].f1) && decide (l[0].f1 ≤ 1000000)) <;> simp
    · have hw : wrap64 ((i : Int) - 1) = ((i - 1 : Nat) : Int) := by unfold wrap64; omega
      have hp : ((i : Int) > 0) = True := eq_true (by omega)
      have hz : (0 : Int) ≤ ((i - 1 : Nat) : Int) := by omega
      have hq : ((i - 1 : Nat) : Int) < (l.length : Int) := by omega
      have hi0 : decide (i = 0) = false := decide_eq_false (by omega)
      have e1 : rd_T89 l ((i - 1 : Nat) : Int) = l.getD (i - 1) z89 := by unfold rd_T89; rw [Int.toNat_natCast]
      rw [hw, e1, hi0, Bool.false_or]
      simp only [hp, if_true, if_pos hz, if_pos hq]
      unfold smp
      generalize (l.getD (i - 1) z89).f0 = p
      generalize l[i].f0 = q
      generalize (decide (-1000000 ≤ l[i].f1) && decide (l[i].f1 ≤ 1000000)) = b
      generalize (decide (0 ≤ q) && decide (q ≤ 99999)) = a
      generalize rise l (i + 1) = r
      by_cases hpq : p < q
      · have e2 : ¬ p ≥ q := by omega
        have e3 : ¬ q ≤ p := by omega
        cases a <;> cases b <;> simp [hpq, e3]
      · have e2 : p ≥ q := by omega
        cases a <;> cases b <;> simp [hpq, e2]
def sokB (l : List S89) : Bool := !decide ((l.length : Int) > 4096) && rise l 0
theorem sok_eq (l : List S89) (hl : l.length ≤ 1048576) (k : Nat) (hk : l.length < k) : spec_SamplesOK.f k l = some (sokB l) ∧ impl_SamplesOK.f k l = some (sokB l) := by
  obtain ⟨h1, h2⟩ := sok_loops l hl l.length k 0 (by omega) (by omega) hk
  unfold spec_SamplesOK.f impl_SamplesOK.f impl_Sample.f sokB
  simp only [Option.bind_some]
  have e : ((0 : Nat) : Int) = 0 := rfl
  rw [e] at h1 h2
  rw [h1, h2]
  by_cases h : (l.length : Int) > 4096
  · simp [h]
  · simp [h]
theorem merged_total (c s mn mx f l c' s' mn' mx' f' l' : Int) : ∃ r, spec_l02Merge.f c s mn mx f l c' s' mn' mx' f' l' = some r := by
  unfold spec_l02Merge.f
  by_cases h : c = 0
  · rw [if_pos h]; exact ⟨_, rfl⟩
  · rw [if_neg h]
    by_cases h' : c' = 0
    · rw [if_pos h']; exact ⟨_, rfl⟩
    · rw [if_neg h']; exact ⟨_, rfl⟩
theorem merged_same (c s mn mx f l c' s' mn' mx' f' l' : Int) : impl_Agg_merged.f c s mn mx f l c' s' mn' mx' f' l' = spec_l02Merge.f c s mn mx f l c' s' mn' mx' f' l' := rfl
theorem range_same (a b : Int) : ∃ r, spec_l04Range.f a b = some r ∧ impl_isRange.f a b = some r := by
  unfold spec_l04Range.f impl_isRange.f
  simp only [in_eq, Option.bind_some]
  by_cases h1 : 0 ≤ a
  · by_cases h2 : a ≤ b
    · by_cases h3 : b ≤ 100000
      · have h4 : a ≤ 100000 := by omega
        exact ⟨true, by simp [h1, h2, h3, h4], by simp [h1, h2, h3]⟩
      · refine ⟨false, ?_, by simp [h1, h2, h3]⟩
        by_cases h4 : a ≤ 100000 <;> simp [h1, h3, h4]
    · refine ⟨false, ?_, by simp [h1, h2]⟩
      by_cases h4 : a ≤ 100000 <;> simp [h1, h2, h4]
  · exact ⟨false, by simp [h1], by simp [h1]⟩
theorem first2 (k : Nat) (b1 b2 : Bool) (c1 c2 : Int) : impl_first.f (k + 3) [anyB b1, anyI c1, anyB b2, anyI c2] = some (if b1 = true then c1 else if b2 = true then c2 else 0) := by
  have w1 : wrap64 1 = 1 := by unfold wrap64; omega
  have w2 : wrap64 2 = 2 := by unfold wrap64; omega
  have w3 : wrap64 3 = 3 := by unfold wrap64; omega
  have w4 : wrap64 4 = 4 := by unfold wrap64; omega
  have w5 : wrap64 5 = 5 := by unfold wrap64; omega
  cases b1 <;> cases b2 <;> simp [impl_first.f, impl_first.l0, w1, w2, w3, w4, w5, rdOf, anyAsB, anyAsI]
theorem first3 (k : Nat) (b1 b2 b3 : Bool) (c1 c2 c3 : Int) : impl_first.f (k + 4) [anyB b1, anyI c1, anyB b2, anyI c2, anyB b3, anyI c3] = some (if b1 = true then c1 else if b2 = true then c2 else if b3 = true then c3 else 0) := by
  have w1 : wrap64 1 = 1 := by unfold wrap64; omega
  have w2 : wrap64 2 = 2 := by unfold wrap64; omega
  have w3 : wrap64 3 = 3 := by unfold wrap64; omega
  have w4 : wrap64 4 = 4 := by unfold wrap64; omega
  have w5 : wrap64 5 = 5 := by unfold wrap64; omega
  have w6 : wrap64 6 = 6 := by unfold wrap64; omega
  have w7 : wrap64 7 = 7 := by unfold wrap64; omega
  cases b1 <;> cases b2 <;> cases b3 <;> simp [impl_first.f, impl_first.l0, w1, w2, w3, w4, w5, w6, w7, rdOf, anyAsB, anyAsI]
theorem agg2 (l : List S89) (hl : l.length ≤ 1048576) (d : Nat) : ∀ (k k2 i : Nat) (x0 x1 x2 x3 x4 x5 : Int), x0 = (i : Int) → i ≤ l.length → l.length - i = d → d < k → d < k2 →
    ∃ m, spec_l02Of.l0 k l (i : Int) x0 x1 x2 x3 x4 x5 = some m ∧ impl_aggOf.l0 k2 l (l.length : Int) (i : Int) x0 x1 x2 x3 x4 x5 = some m ∧ m.1 = (l.length : Int) := by
  induction d with
  | zero =>
    intro k k2 i x0 x1 x2 x3 x4 x5 h0 hi hd hk hk2
    obtain ⟨k, rfl⟩ : ∃ m, k = m + 1 := ⟨k - 1, by omega⟩
    obtain ⟨k2, rfl⟩ : ∃ m, k2 = m + 1 := ⟨k2 - 1, by omega⟩
    have hn : ¬ (i : Int) < (l.length : Int) := by omega
    refine ⟨(x0, x1, x2, x3, x4, x5), ?_, ?_, by show x0 = _; omega⟩
    · simp only [spec_l02Of.l0]; rw [if_neg hn]
    · simp only [impl_aggOf.l0]; rw [if_neg hn]
  | succ d ih =>
    intro k k2 i x0 x1 x2 x3 x4 x5 h0 hi hd hk hk2
    obtain ⟨k, rfl⟩ : ∃ m, k = m + 1 := ⟨k - 1, by omega⟩
    obtain ⟨k2, rfl⟩ : ∃ m, k2 = m + 1 := ⟨k2 - 1, by omega⟩
    have hlt : i < l.length := by omega
    have e1 : ((i : Int) < (l.length : Int)) = True := eq_true (by omega)
    have e3 : ((0 : Int) ≤ (i : Int)) = True := eq_true (by omega)
    simp only [spec_l02Of.l0, impl_aggOf.l0, e1, e3, if_true, cast_wrap hlt (by omega : l.length ≤ 140737488351232), merged_same]
    generalize (rd_T89 l (i : Int)) = e
    obtain ⟨m, hm⟩ := merged_total x0 x1 x2 x3 x4 x5 1 e.f1 e.f1 e.f1 e.f1 e.f1
    have hm1 : m.1 = ((i + 1 : Nat) : Int) := by
      unfold spec_l02Merge.f at hm
      by_cases hz : x0 = 0
      · rw [if_pos hz] at hm
        have := Option.some.inj hm
        rw [← this]; show (1 : Int) = _; omega
      · rw [if_neg hz, if_neg (by omega)] at hm
        have := Option.some.inj hm
        rw [← this]; show wrap64 (x0 + 1) = _
        rw [h0]; exact cast_wrap hlt (by omega)
    simp only [hm, Option.bind_some]
    exact ih k k2 (i + 1) _ _ _ _ _ _ hm1 (by omega) (by omega) (by omega) (by omega)
theorem in_loops (l : List S89) (hl : l.length ≤ 1048576) (a b : Int) (d : Nat) : ∀ (k k2 i : Nat) (x : List S89), x.length ≤ i → i ≤ l.length → l.length - i = d → d < k → d < k2 →
    ∃ y k', y.length ≤ l.length ∧ k ≤ k' + d + 1 ∧ impl_samplesIn.l0 k2 a b x l (l.length : Int) (i : Int) = some y ∧
      spec_l04Down.l0 k l a b x (i : Int) = (if (y.length : Int) = 0 then (some (([] : List S99))) else ((spec_l02Of.f k' y).bind fun bt134 => (some (([(⟨a, (⟨bt134.1, bt134.2.1, bt134.2.2.1, bt134.2.2.2.1, bt134.2.2.2.2.1, bt134.2.2.2.2.2⟩ : S94)⟩ : S99)] : List (S99)))))) := by
  induction d with
  | zero =>
    intro k k2 i x hx hi hd hk hk2
    obtain ⟨k, rfl⟩ : ∃ m, k = m + 1 := ⟨k - 1, by omega⟩
    obtain ⟨k2, rfl⟩ : ∃ m, k2 = m + 1 := ⟨k2 - 1, by omega⟩
    have hn : ¬ (i : Int) < (l.length : Int) := by omega
    refine ⟨x, k, by omega, by omega, ?_, ?_⟩
    · simp only [impl_samplesIn.l0]; rw [if_neg hn]
    · simp only [spec_l04Down.l0]; rw [if_neg hn]
  | succ d ih =>
    intro k k2 i x hx hi hd hk hk2
    obtain ⟨k, rfl⟩ : ∃ m, k = m + 1 := ⟨k - 1, by omega⟩
    obtain ⟨k2, rfl⟩ : ∃ m, k2 = m + 1 := ⟨k2 - 1, by omega⟩
    have hlt : i < l.length := by omega
    have e1 : ((i : Int) < (l.length : Int)) = True := eq_true (by omega)
    have e3 : ((0 : Int) ≤ (i : Int)) = True := eq_true (by omega)
    have e4 : (x.length < 8796093022208) = True := eq_true (by omega)
    simp only [spec_l04Down.l0, impl_samplesIn.l0, e1, e3, e4, if_true, cast_wrap hlt (by omega : l.length ≤ 140737488351232), in_eq, within_eq, Option.bind_some]
    generalize (rd_T89 l (i : Int)) = e
    by_cases hc : (decide (a ≤ e.f0) && decide (e.f0 ≤ wrap64 (b - 1))) = true
    · rw [if_pos hc, if_pos hc]
      obtain ⟨y, k', h1, h2, h3, h4⟩ := ih k k2 (i + 1) (x ++ [⟨e.f0, e.f1⟩]) (by simp; omega) (by omega) (by omega) (by omega) (by omega)
      exact ⟨y, k', h1, by omega, h3, h4⟩
    · rw [if_neg hc, if_neg hc]
      obtain ⟨y, k', h1, h2, h3, h4⟩ := ih k k2 (i + 1) x (by omega) (by omega) (by omega) (by omega) (by omega)
      exact ⟨y, k', h1, by omega, h3, h4⟩
theorem down_same (l : List S89) (hl : l.length ≤ 1048576) (a b : Int) (k : Nat) (hk : 2 * l.length + 5 < k) :
    ∃ r y m, spec_l04Down.f k l a b = some r ∧ impl_samplesIn.f k l a b = some y ∧ impl_aggOf.f k y = some m ∧ impl_bucketOf.f a m.1 m.2.1 m.2.2.1 m.2.2.2.1 m.2.2.2.2.1 m.2.2.2.2.2 = some r ∧ (r = [] ∨ ∃ e, r = [e]) := by
  obtain ⟨y, k', h1, h2, h3, h4⟩ := in_loops l hl a b l.length k k 0 [] (by simp) (by omega) (by omega) (by omega) (by omega)
  obtain ⟨m, h5, h6, h7⟩ := agg2 y (by omega) y.length k' k 0 0 0 0 0 0 0 rfl (by omega) (by omega) (by omega) (by omega)
  have h5 : spec_l02Of.f k' y = some m := h5
  have h6 : impl_aggOf.f k y = some m := h6
  have h4 : spec_l04Down.f k l a b = _ := h4
  have h3 : impl_samplesIn.f k l a b = _ := h3
  by_cases hz : (y.length : Int) = 0
  · refine ⟨[], y, m, by rw [h4, if_pos hz], h3, h6, ?_, Or.inl rfl⟩
    unfold impl_bucketOf.f; rw [if_pos (by omega)]
  · refine ⟨_, y, m, by rw [h4, if_neg hz, h5]; rfl, h3, h6, ?_, Or.inr ⟨_, rfl⟩⟩
    unfold impl_bucketOf.f; rw [if_neg (by omega)]
theorem ds_same (l : List S89) (hl : l.length ≤ 1048576) (a b : Int) (k : Nat) (hk : 2 * l.length + 9 < k) :
    ∃ r, spec_Downsample.f k l a b = some r ∧ impl_Downsample.f k l a b = some r ∧ (r.1 = [] ∨ ∃ e, r.1 = [e]) := by
  obtain ⟨k, rfl⟩ : ∃ k', k = k' + 4 := ⟨k - 4, by omega⟩
  obtain ⟨h1, h2⟩ := sok_eq l hl (k + 4) (by omega)
  obtain ⟨rr, h3, h4⟩ := range_same a b
  obtain ⟨r, y, m, h5, h6, h7, h8, h9⟩ := down_same l hl a b (k + 4) (by omega)
  unfold spec_Downsample.f impl_Downsample.f impl_Sample.f
  simp only [Option.bind_some, h1, h2, h3, h4, h5, h6, h7, h8, first3]
  by_cases hlen : (l.length : Int) > 4096
  · exact ⟨([], 2), by rw [if_pos hlen], by simp [hlen], Or.inl rfl⟩
  · have hd : decide ((l.length : Int) > 4096) = false := decide_eq_false hlen
    rw [hd]
    simp only [if_neg hlen]
    cases sokB l with
    | false => exact ⟨([], 1), by simp, by simp, Or.inl rfl⟩
    | true =>
      cases rr with
      | false => exact ⟨([], 4), by simp, by simp, Or.inl rfl⟩
      | true => exact ⟨(r, 0), by simp, by simp, h9⟩
theorem FnExactDownsample : laws_FnExactDownsample.Pure := by
  intro l a b ⟨hm, hn, _⟩ _ _
  obtain ⟨k, hk⟩ : ∃ k : Nat, k = 3000000 := ⟨_, rfl⟩
  refine ⟨k + 1 + 1 + 1, ?_⟩
  unfold laws_FnExactDownsample.f
  rw [szSampleS_tot l 1048576 (by omega) (by omega) (by omega)]
  by_cases hs : (1048576 : Int) - (l.length : Int) < 0
  · rw [if_pos hs]; simp
  · rw [if_neg hs]
    have hl : l.length ≤ 1048576 := by omega
    have hc : (l.map cvSample).length = l.length := by simp
    obtain ⟨r, h1, h2, h3⟩ := ds_same (l.map cvSample) (by omega) a b (k + 1) (by omega)
    have h1b := spec_Downsample.mono _ _ _ (k + 1 + 1) r (spec_Downsample.mono _ _ _ (k + 1) r h1)
    have h2b := impl_Downsample.mono _ _ _ (k + 1 + 1) r (impl_Downsample.mono _ _ _ (k + 1) r h2)
    have hr : r.1.length ≤ 1 := by rcases h3 with h | ⟨e, h⟩ <;> rw [h] <;> simp
    have hne : (r.2 != r.2) = false := by simp
    have hk0 : ((1 : Int) + 2 * ((l.map cvSample).length : Int) < 0) = False := eq_false (by omega)
    have hm0 : ((1 : Int) + 7 * (r.1.length : Int) < 0) = False := eq_false (by omega)
    simp only [Option.bind_some, hs, if_false, toSampleS_eq l hl (k + 1 + 1 + 1) (by omega), h1b, h2b, eqBucketS_same r.1 (by omega) (k + 1 + 1 + 1) (by omega), if_true, hne, laws_FnExactDownsample.j0, Bool.false_eq_true,
      toSampleS_eq l hl (k + 1 + 1) (by omega), eqSampleS_same (l.map cvSample) (by omega) (k + 1 + 1) (by omega), markSampleS_eq (l.map cvSample) 1 (k + 1 + 1) (by omega) (by omega) (by omega) (by omega), hk0,
      eqBucketS_same r.1 (by omega) (k + 1 + 1) (by omega), laws_FnExactDownsample.j1, markBucketS_eq r.1 1 (k + 1) (by omega) (by omega) (by omega) (by omega), heldBucketS_eq r.1.length 1 (k + 1) (by omega) (by omega) (by omega) (by omega), hm0,
      toSampleS_eq l hl (k + 1) (by omega), h2, eqBucketS_same r.1 (by omega) (k + 1) (by omega), laws_FnExactDownsample.j2, heldBucketS_eq r.1.length 1 k (by omega) (by omega) (by omega) (by omega)]

end Go.Proofs.Ytcdkphafiibpcaa.Pure
