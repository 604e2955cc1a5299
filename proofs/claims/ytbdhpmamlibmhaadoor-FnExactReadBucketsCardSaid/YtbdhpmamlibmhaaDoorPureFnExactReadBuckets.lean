/- The pure law of FnExactReadBuckets: what the printed functions compute answers true for every input of the kinds and sizes that the statement gives. -/
import Derived.Test.YtbdhpmamlibmhaaDoorKinFnExactReadBuckets
import Derived.Lib.AtoiAllCases
import Derived.Lib.ItoaLen
import Derived.Lib.SplitLaws
import Derived.Lib.AtoiAllCases
import Derived.Lib.ItoaLen
import Derived.Lib.SplitLaws
import Derived.Lib.AtoiAllCases
import Derived.Lib.ItoaLen
import Derived.Lib.SplitLaws
import Derived.Lib.AtoiAllCases
import Derived.Lib.ItoaLen
import Derived.Lib.SplitLaws
import Derived.Lib.AtoiAllCases
import Derived.Lib.ItoaLen
import Derived.Lib.SplitLaws
import Derived.Lib.AtoiAllCases
import Derived.Lib.ItoaLen
import Derived.Lib.SplitLaws
import Derived.Lib.AtoiAllCases
import Derived.Lib.ItoaLen
import Derived.Lib.SplitLaws
namespace Go.Proofs.YtbdhpmamlibmhaaDoor.Pure
open Go.RowKit Go.Proofs.YtbdhpmamlibmhaaDoorW.PrintWords Go.Proofs.YtbdhpmamlibmhaaDoorW.PrintLast Go.Proofs.YtbdhpmamlibmhaaDoor.XFnExactReadBuckets
set_option linter.unusedSimpArgs false
set_option linter.unusedVariables false

def aggB (c s mn mx f l : Int) : Bool := (c == 0 && s == 0 && mn == 0 && mx == 0 && f == 0 && l == 0) ||
 (decide (1 ≤ c) && decide (c ≤ 100000) && decide (-1000000 ≤ mn) && decide (mn ≤ 1000000) && decide (-1000000 ≤ mx) && decide (mx ≤ 1000000) && decide (mn ≤ f) && decide (f ≤ mx) && decide (mn ≤ l) && decide (l ≤ mx) && decide (c * mn ≤ s) && decide (s ≤ c * mx))
theorem within_eq (a b c : Int) : impl_within.f a b c = some (decide (b ≤ a) && decide (a ≤ c)) := by
 unfold impl_within.f; by_cases h : b ≤ a <;> simp [h]
theorem in_eq (a b c : Int) : spec_l01In.f a b c = some (decide (b ≤ a) && decide (a ≤ c)) := by
 unfold spec_l01In.f; by_cases h : b ≤ a <;> simp [h]
theorem mul_small {c m : Int} (h1 : 1 ≤ c) (h2 : c ≤ 100000) (h3 : -1000000 ≤ m) (h4 : m ≤ 1000000) : wrap64 (c * m) = c * m := by
 have a : c * m ≤ 100000 * 1000000 := by
  rcases Int.lt_or_le m 0 with h | h
  ·have : c * m ≤ 0 := Int.mul_nonpos_of_nonneg_of_nonpos (by omega) (by omega)
   omega
  ·exact Int.mul_le_mul h2 h4 h (by omega)
 have b : -(100000 * 1000000) ≤ c * m := by
  have h5 : c * (-m) ≤ 100000 * 1000000 := by
   rcases Int.lt_or_le (-m) 0 with h | h
   ·have : c * (-m) ≤ 0 := Int.mul_nonpos_of_nonneg_of_nonpos (by omega) (by omega)
    omega
   ·exact Int.mul_le_mul h2 (by omega) h (by omega)
  rw [Int.mul_neg] at h5
  omega
 unfold wrap64; omega
theorem spec_agg (c s mn mx f l : Int) : spec_AggOK.f c s mn mx f l = some (aggB c s mn mx f l) := by
 unfold spec_AggOK.f aggB spec_l02Value.f
 simp only [in_eq,Option.bind_some]
 by_cases hc : c = 0
 ·subst hc; simp [Bool.and_assoc]
 ·have hc' : (c == 0) = false := by simp [hc]
  rw [if_neg hc,hc']
  by_cases h1 : 1 ≤ c <;> by_cases h2 : c ≤ 100000 <;> simp only [h1,h2,decide_true,decide_false,Bool.and_true,Bool.true_and,Bool.and_false,Bool.false_and,Bool.false_or,if_true,if_false,Bool.false_eq_true]
  by_cases h3 : -1000000 ≤ mn <;> by_cases h4 : mn ≤ 1000000 <;> simp only [h3,h4,decide_true,decide_false,Bool.and_true,Bool.true_and,Bool.and_false,Bool.false_and,if_true,if_false,Bool.false_eq_true]
  by_cases h5 : -1000000 ≤ mx <;> by_cases h6 : mx ≤ 1000000 <;> simp only [h5,h6,decide_true,decide_false,Bool.and_true,Bool.true_and,Bool.and_false,Bool.false_and,if_true,if_false,Bool.false_eq_true]
  rw [mul_small h1 h2 h3 h4,mul_small h1 h2 h5 h6]
  by_cases h7 : mn ≤ f <;> by_cases h8 : f ≤ mx <;> by_cases h9 : mn ≤ l <;> by_cases h10 : l ≤ mx <;> simp [h7,h8,h9,h10]
theorem impl_agg (c s mn mx f l : Int) : impl_AggOK.f c s mn mx f l = some (aggB c s mn mx f l) := by
 rw [← spec_agg]
 unfold impl_AggOK.f spec_AggOK.f impl_isValue.f spec_l02Value.f
 simp only [in_eq,within_eq,Option.bind_some]
 by_cases hc : c = 0
 ·subst hc
  by_cases h : s = 0 ∧ mn = 0 ∧ mx = 0 ∧ f = 0 ∧ l = 0
  ·obtain ⟨rfl,rfl,rfl,rfl,rfl⟩ := h; simp
  ·have e : ((0 : Int) == 0 && (s == 0 && (mn == 0 && (mx == 0 && (f == 0 && (l == 0)))))) = false := by
    rw [Bool.eq_false_iff]; intro h'; apply h; simpa using h'
   rw [e]; simp
 ·have hc' : (c == 0) = false := by simp [hc]
  rw [if_neg hc,hc']
  simp
theorem cast_wrap {i n : Nat} (h : i < n) (hn : n ≤ 140737488351232) : wrap64 ((i : Int) + 1) = ((i + 1 : Nat) : Int) := by unfold wrap64; omega
theorem take_set_succ {α : Type} (l : List α) (i : Nat) (v : α) (h : i < l.length) : (l.set i v).take (i + 1) = l.take i ++ [v] := by
 rw [List.take_succ_eq_append_getElem (by simpa using h)]
 simp only [List.take_set,List.getElem_set_self]
 rw [List.set_eq_of_length_le (by simp; omega)]
theorem rd88_at (l : List S88) (i : Nat) (h : i < l.length) : rd_T88 l (i : Int) = l[i] := by
 unfold rd_T88; rw [Int.toNat_natCast,List.getD_eq_getElem?_getD,List.getElem?_eq_getElem h]; rfl
theorem eqBucket_same (x0 : Int) (x1 : Int) (x2 : Int) (x3 : Int) (x4 : Int) (x5 : Int) (x6 : Int) : laws_eqBucket.f x0 x1 x2 x3 x4 x5 x6 x0 x1 x2 x3 x4 x5 x6 = some true := by simp [laws_eqBucket.f,laws_eqAgg.f]
theorem eqBucketS_loop (a : List S88) (hl : a.length ≤ 1048576) (d : Nat) : ∀ (k i : Nat),i ≤ a.length → a.length - i = d → d < k → laws_eqBucketS.l0 k a a (i : Int) = some true := by
 induction d with
 | zero =>
  intro k i hi hd hk
  obtain ⟨k,rfl⟩ : ∃ m,k = m + 1 := ⟨k - 1,by omega⟩
  simp only [laws_eqBucketS.l0]
  rw [if_neg (by omega)]
 | succ d ih =>
  intro k i hi hd hk
  obtain ⟨k,rfl⟩ : ∃ m,k = m + 1 := ⟨k - 1,by omega⟩
  have hlt : i < a.length := by omega
  simp only [laws_eqBucketS.l0]
  rw [if_pos (by omega),if_pos (by omega),if_pos (by omega),eqBucket_same,cast_wrap hlt (by omega),ih k (i + 1) (by omega) (by omega) (by omega)]
  simp
theorem eqBucketS_same (a : List S88) (hl : a.length ≤ 1048576) (k : Nat) (hk : a.length < k) : laws_eqBucketS.f k a a = some true := by
 unfold laws_eqBucketS.f
 rw [if_pos rfl]
 exact eqBucketS_loop a hl a.length k 0 (by omega) (by omega) hk
def mkBucket (m : Int) : S88 := ⟨m,⟨m + 1,m + 1 + 1,m + 1 + 1 + 1,m + 1 + 1 + 1 + 1,m + 1 + 1 + 1 + 1 + 1,m + 1 + 1 + 1 + 1 + 1 + 1⟩⟩
def marksBucket : Nat → Int → List S88
 | 0,_ => []
 | d + 1,m => mkBucket m :: marksBucket d (m + 1 + 1 + 1 + 1 + 1 + 1 + 1)
theorem markBucketS_loop (d : Nat) : ∀ (k i : Nat) (l : List S88) (m : Int),i ≤ l.length → l.length - i = d → d + 20 < k → l.length ≤ 1048576 → 0 ≤ m → m + 7 * d ≤ 100000000000000 →
  laws_markBucketS.l0 k l m (i : Int) = some (m + 7 * d,l.take i ++ marksBucket d m) := by
 induction d with
 | zero =>
  intro k i l m hi hd hk hl h0 hm
  obtain ⟨k,rfl⟩ : ∃ m,k = m + 1 := ⟨k - 1,by omega⟩
  obtain rfl : i = l.length := by omega
  simp only [laws_markBucketS.l0]
  rw [if_neg (by omega)]
  simp [marksBucket]
 | succ d ih =>
  intro k i l m hi hd hk hl h0 hm
  obtain ⟨k,rfl⟩ : ∃ m,k = m + 1 := ⟨k - 1,by omega⟩
  have hlt : i < l.length := by omega
  have hc : ((d + 1 : Nat) : Int) = (d : Int) + 1 := by omega
  rw [hc] at hm
  have w1 : wrap64 (m + 1) = m + 1 := by unfold wrap64; omega
  have w2 : wrap64 (m + 1 + 1) = m + 1 + 1 := by unfold wrap64; omega
  have w3 : wrap64 (m + 1 + 1 + 1) = m + 1 + 1 + 1 := by unfold wrap64; omega
  have w4 : wrap64 (m + 1 + 1 + 1 + 1) = m + 1 + 1 + 1 + 1 := by unfold wrap64; omega
  have w5 : wrap64 (m + 1 + 1 + 1 + 1 + 1) = m + 1 + 1 + 1 + 1 + 1 := by unfold wrap64; omega
  have w6 : wrap64 (m + 1 + 1 + 1 + 1 + 1 + 1) = m + 1 + 1 + 1 + 1 + 1 + 1 := by unfold wrap64; omega
  have w7 : wrap64 (m + 1 + 1 + 1 + 1 + 1 + 1 + 1) = m + 1 + 1 + 1 + 1 + 1 + 1 + 1 := by unfold wrap64; omega
  have rs : ∀ (l : List S88) (v : S88),i < l.length → rd_T88 (l.set i v) (i : Int) = v := fun l v h => by rw [rd88_at _ _ (by simpa using h),List.getElem_set_self]
  simp only [laws_markBucketS.l0,Option.bind_some,Int.toNat_natCast,w1,w2,w3,w4,w5,w6,w7]
  rw [if_pos (by omega),if_pos (by omega)]
  simp only [List.set_set,List.length_set,rs _ _ hlt,rd88_at l i hlt,cast_wrap hlt (by omega)]
  rw [ih k (i + 1) _ (m + 1 + 1 + 1 + 1 + 1 + 1 + 1) (by simp; omega) (by simp; omega) (by omega) (by simpa using hl) (by omega) (by omega),take_set_succ _ _ _ hlt,List.append_assoc]
  simp only [marksBucket,List.singleton_append,Option.some.injEq,Prod.mk.injEq]
  exact ⟨by omega,rfl⟩
theorem markBucketS_eq (l : List S88) (m : Int) (k : Nat) (hk : l.length + 20 < k) (hl : l.length ≤ 1048576) (h0 : 0 ≤ m) (hm : m + 7 * l.length ≤ 100000000000000) : laws_markBucketS.f k l m = some (m + 7 * l.length,marksBucket l.length m) := by
 have := markBucketS_loop l.length k 0 l m (by omega) (by omega) hk hl h0 hm
 unfold laws_markBucketS.f
 refine Eq.trans this ?_
 simp
theorem marksBucket_length : ∀ (d : Nat) (m : Int),(marksBucket d m).length = d
 | 0,_ => rfl
 | d + 1,m => by simp [marksBucket,marksBucket_length d]
theorem heldBucketS_loop (d : Nat) : ∀ (k : Nat) (p : List S88) (m : Int),d + 20 < k → p.length + d ≤ 1048576 → 0 ≤ m → m + 7 * d ≤ 100000000000000 → laws_heldBucketS.l0 k (p ++ marksBucket d m) m (p.length : Int) = some (m + 7 * d) := by
 induction d with
 | zero =>
  intro k p m hk hl h0 hm
  obtain ⟨k,rfl⟩ : ∃ m,k = m + 1 := ⟨k - 1,by omega⟩
  simp only [laws_heldBucketS.l0,marksBucket,List.append_nil]
  rw [if_neg (by omega)]
  simp
 | succ d ih =>
  intro k p m hk hl h0 hm
  obtain ⟨k,rfl⟩ : ∃ m,k = m + 1 := ⟨k - 1,by omega⟩
  have hc : ((d + 1 : Nat) : Int) = (d : Int) + 1 := by omega
  rw [hc] at hm
  have hlen : (p ++ marksBucket (d + 1) m).length = p.length + (d + 1) := by rw [List.length_append,marksBucket_length]
  have hlt : p.length < (p ++ marksBucket (d + 1) m).length := by omega
  have hat : rd_T88 (p ++ marksBucket (d + 1) m) (p.length : Int) = mkBucket m := by rw [rd88_at _ _ hlt]; simp [marksBucket]
  have w1 : wrap64 (m + 1) = m + 1 := by unfold wrap64; omega
  have w2 : wrap64 (m + 1 + 1) = m + 1 + 1 := by unfold wrap64; omega
  have w3 : wrap64 (m + 1 + 1 + 1) = m + 1 + 1 + 1 := by unfold wrap64; omega
  have w4 : wrap64 (m + 1 + 1 + 1 + 1) = m + 1 + 1 + 1 + 1 := by unfold wrap64; omega
  have w5 : wrap64 (m + 1 + 1 + 1 + 1 + 1) = m + 1 + 1 + 1 + 1 + 1 := by unfold wrap64; omega
  have w6 : wrap64 (m + 1 + 1 + 1 + 1 + 1 + 1) = m + 1 + 1 + 1 + 1 + 1 + 1 := by unfold wrap64; omega
  have w7 : wrap64 (m + 1 + 1 + 1 + 1 + 1 + 1 + 1) = m + 1 + 1 + 1 + 1 + 1 + 1 + 1 := by unfold wrap64; omega
  have hn := ih k (p ++ [mkBucket m]) (m + 1 + 1 + 1 + 1 + 1 + 1 + 1) (by omega) (by simp; omega) (by omega) (by omega)
  rw [List.append_assoc,List.singleton_append,show (((p ++ [mkBucket m]).length : Nat) : Int) = ((p.length + 1 : Nat) : Int) from by simp] at hn
  simp only [laws_heldBucketS.l0,Option.bind_some,w1,w2,w3,w4,w5,w6,w7,hat]
  rw [if_pos (by omega),if_pos (by omega),cast_wrap hlt (by omega)]
  simp only [mkBucket,ne_eq,not_true_eq_false,if_true,if_false]
  refine Eq.trans hn ?_
  rw [hc]
  exact congrArg some (by omega)
theorem heldBucketS_eq (n : Nat) (m : Int) (k : Nat) (hk : n + 20 < k) (hl : n ≤ 1048576) (h0 : 0 ≤ m) (hm : m + 7 * n ≤ 100000000000000) : laws_heldBucketS.f k (marksBucket n m) m = some (m + 7 * n) := by
 have := heldBucketS_loop n k [] m hk (by simpa using hl) h0 hm
 unfold laws_heldBucketS.f
 exact this
def bkt (x : S88) : Bool := ((decide (0 ≤ x.f0) && decide (x.f0 ≤ 99999)) && aggB x.f1.f0 x.f1.f1 x.f1.f2 x.f1.f3 x.f1.f4 x.f1.f5) && !decide (x.f1.f0 = 0)
def riseB (l : List S88) (i : Nat) : Bool := (List.range l.length).all fun j => decide (j < i) || (bkt (l.getD j z88) && (decide (j = 0) || decide ((l.getD (j - 1) z88).f0 < (l.getD j z88).f0)))
theorem riseB_end (l : List S88) : riseB l l.length = true := by
 unfold riseB
 rw [List.all_eq_true]
 intro j hj
 simp [List.mem_range.1 hj]
theorem riseB_step (l : List S88) (i : Nat) (h : i < l.length) : riseB l i = ((bkt l[i] && (decide (i = 0) || decide ((l.getD (i - 1) z88).f0 < l[i].f0))) && riseB l (i + 1)) := by
 have e : l.getD i z88 = l[i] := by rw [List.getD_eq_getElem?_getD,List.getElem?_eq_getElem h]; rfl
 rw [Bool.eq_iff_iff]
 unfold riseB
 rw [Bool.and_eq_true,List.all_eq_true,List.all_eq_true]
 constructor
 ·intro hh
  refine ⟨?_,fun j hj => ?_⟩
  ·have := hh i (List.mem_range.2 h)
   rw [e] at this
   simpa using this
  ·by_cases hji : j < i + 1
   ·simp [hji]
   ·have h1 : ¬ j < i := by omega
    have := hh j hj
    simp only [h1,hji,decide_false,Bool.false_or] at *
    exact this
 ·rintro ⟨h1,h2⟩ j hj
  by_cases hji : j < i
  ·simp [hji]
  ·by_cases hje : j = i
   ·subst hje; rw [e]; simpa using h1
   ·have := h2 j hj
    have hn : ¬ j < i + 1 := by omega
    simp only [hn,decide_false,Bool.false_or] at this
    simp only [hji,decide_false,Bool.false_or]
    exact this
theorem bspec_loop (l : List S88) (hl : l.length ≤ 1048576) (d : Nat) : ∀ (k i : Nat),i ≤ l.length → l.length - i = d → 2 * d < k →
  spec_BucketsOK.l0 k l (i : Int) = some (riseB l i && decide ((l.length : Int) ≤ 8)) := by
 induction d with
 | zero =>
  intro k i hi hd hk
  obtain ⟨k,rfl⟩ : ∃ m,k = m + 1 := ⟨k - 1,by omega⟩
  obtain rfl : i = l.length := by omega
  simp only [spec_BucketsOK.l0]
  rw [if_neg (by omega),riseB_end,Bool.true_and]
 | succ d ih =>
  intro k i hi hd hk
  obtain ⟨k,rfl⟩ : ∃ m,k = m + 1 := ⟨k - 1,by omega⟩
  have hlt : i < l.length := by omega
  have h1 := ih k (i + 1) (by omega) (by omega) (by omega)
  simp only [spec_BucketsOK.l0,in_eq,spec_agg,Option.bind_some]
  rw [if_pos (by omega),if_pos (by omega),rd88_at l i hlt,cast_wrap hlt (by omega),h1,riseB_step l i hlt]
  unfold bkt
  generalize (decide (0 ≤ l[i].f0) && decide (l[i].f0 ≤ 99999)) = a
  generalize aggB l[i].f1.f0 l[i].f1.f1 l[i].f1.f2 l[i].f1.f3 l[i].f1.f4 l[i].f1.f5 = b
  generalize riseB l (i + 1) = r
  generalize decide ((l.length : Int) ≤ 8) = m
  cases a with
  | false => simp
  | true =>
   cases b with
   | false => simp
   | true =>
    by_cases hc : l[i].f1.f0 = 0
    ·simp [hc]
    ·rcases Nat.eq_zero_or_pos i with h0 | h0
     ·subst h0; simp [hc]
     ·have hw : wrap64 ((i : Int) - 1) = ((i - 1 : Nat) : Int) := by unfold wrap64; omega
      have hp : ((i : Int) > 0) = True := eq_true (by omega)
      have hz : (0 : Int) ≤ ((i - 1 : Nat) : Int) := by omega
      have hq : ((i - 1 : Nat) : Int) < (l.length : Int) := by omega
      have hi0 : decide (i = 0) = false := decide_eq_false (by omega)
      have e1 : rd_T88 l ((i - 1 : Nat) : Int) = l.getD (i - 1) z88 := by unfold rd_T88; rw [Int.toNat_natCast]
      rw [hw,e1,hi0,Bool.false_or]
      simp only [hp,if_true,if_pos hz,if_pos hq,hc,if_false]
      generalize (l.getD (i - 1) z88).f0 = p
      generalize l[i].f0 = q
      by_cases hpq : p < q
      ·have e2 : ¬ p ≥ q := by omega
       simp [hpq,e2]
      ·have e2 : p ≥ q := by omega
       simp [hpq,e2]
theorem bimpl_loop (l : List S88) (hl : l.length ≤ 8) (d : Nat) : ∀ (k i : Nat),i ≤ l.length → l.length - i = d → 2 * d < k →
  impl_BucketsOK.l0 k l l (l.length : Int) (i : Int) = some (riseB l i) := by
 induction d with
 | zero =>
  intro k i hi hd hk
  obtain ⟨k,rfl⟩ : ∃ m,k = m + 1 := ⟨k - 1,by omega⟩
  obtain rfl : i = l.length := by omega
  simp only [impl_BucketsOK.l0]
  rw [if_neg (by omega),riseB_end]
 | succ d ih =>
  intro k i hi hd hk
  obtain ⟨k,rfl⟩ : ∃ m,k = m + 1 := ⟨k - 1,by omega⟩
  have hlt : i < l.length := by omega
  have h1 := ih k (i + 1) (by omega) (by omega) (by omega)
  simp only [impl_BucketsOK.l0,impl_isMoment.f,within_eq,impl_agg,Option.bind_some]
  rw [if_pos (by omega),if_pos (by omega),if_pos (by omega),if_neg (by omega),rd88_at l i hlt,cast_wrap hlt (by omega),h1,riseB_step l i hlt]
  unfold bkt
  generalize (decide (0 ≤ l[i].f0) && decide (l[i].f0 ≤ 99999)) = a
  generalize aggB l[i].f1.f0 l[i].f1.f1 l[i].f1.f2 l[i].f1.f3 l[i].f1.f4 l[i].f1.f5 = b
  generalize riseB l (i + 1) = r
  cases a with
  | false => simp
  | true =>
   cases b with
   | false => simp
   | true =>
    by_cases hc : l[i].f1.f0 = 0
    ·simp [hc]
    ·rcases Nat.eq_zero_or_pos i with h0 | h0
     ·subst h0; simp [hc]
     ·have hw : wrap64 ((i : Int) - 1) = ((i - 1 : Nat) : Int) := by unfold wrap64; omega
      have hp : ((i : Int) > 0) = True := eq_true (by omega)
      have hz : (0 : Int) ≤ ((i - 1 : Nat) : Int) := by omega
      have hq : ((i - 1 : Nat) : Int) < (l.length : Int) := by omega
      have hi0 : decide (i = 0) = false := decide_eq_false (by omega)
      have e1 : rd_T88 l ((i - 1 : Nat) : Int) = l.getD (i - 1) z88 := by unfold rd_T88; rw [Int.toNat_natCast]
      rw [hw,e1,hi0,Bool.false_or]
      simp only [hp,if_true,if_pos hz,if_pos hq,hc,if_false]
      generalize (l.getD (i - 1) z88).f0 = p
      generalize l[i].f0 = q
      by_cases hpq : p < q
      ·have e2 : ¬ q ≤ p := by omega
       simp [hpq,e2]
      ·have e2 : q ≤ p := by omega
       simp [hpq,e2]
theorem bimpl_long (l : List S88) (hl : 8 < l.length) (d : Nat) : ∀ (k i : Nat),i ≤ 8 → 8 - i = d → 2 * d + 2 ≤ k → impl_BucketsOK.l0 k l l (l.length : Int) (i : Int) = some false := by
 induction d with
 | zero =>
  intro k i hi hd hk
  obtain ⟨k,rfl⟩ : ∃ m,k = m + 1 := ⟨k - 1,by omega⟩
  obtain rfl : i = 8 := by omega
  simp only [impl_BucketsOK.l0]
  rw [if_pos (by omega),if_pos (by omega),if_pos (by omega),if_pos (by omega)]
 | succ d ih =>
  intro k i hi hd hk
  obtain ⟨k,rfl⟩ : ∃ m,k = m + 1 := ⟨k - 1,by omega⟩
  have hlt : i < l.length := by omega
  have h1 := ih k (i + 1) (by omega) (by omega) (by omega)
  have hcw : wrap64 ((i : Int) + 1) = ((i + 1 : Nat) : Int) := by unfold wrap64; omega
  simp only [impl_BucketsOK.l0,impl_isMoment.f,within_eq,impl_agg,Option.bind_some]
  rw [if_pos (by omega),if_pos (by omega),if_pos (by omega),if_neg (by omega),hcw,h1]
  have hpr : ∀ (x : Prop) [Decidable x],(if x then some false else some false) = (some false : Option Bool) := fun x _ => by split <;> rfl
  by_cases h0 : (i : Int) > 0
  ·have hw : wrap64 ((i : Int) - 1) = ((i - 1 : Nat) : Int) := by unfold wrap64; omega
   have hz : (0 : Int) ≤ ((i - 1 : Nat) : Int) := by omega
   have hq : ((i - 1 : Nat) : Int) < (l.length : Int) := by omega
   rw [hw]
   simp only [if_pos h0,if_pos hz,if_pos hq,hpr]
  ·simp only [if_neg h0,hpr]
def bokB (l : List S88) : Bool := riseB l 0 && decide ((l.length : Int) ≤ 8)
theorem bok_eq (l : List S88) (hl : l.length ≤ 1048576) (k : Nat) (hk : 2 * l.length + 20 < k) : spec_BucketsOK.f k l = some (bokB l) ∧ impl_BucketsOK.f k l = some (bokB l) := by
 have h1 := bspec_loop l hl l.length k 0 (by omega) (by omega) (by omega)
 unfold spec_BucketsOK.f impl_BucketsOK.f bokB
 constructor
 ·by_cases h : (l.length : Int) > 4096
  ·rw [if_pos h]
   have : decide ((l.length : Int) ≤ 8) = false := decide_eq_false (by omega)
   rw [this,Bool.and_false]
  ·rw [if_neg h]; exact h1
 ·by_cases h8 : l.length ≤ 8
  ·have h2 := bimpl_loop l h8 l.length k 0 (by omega) (by omega) (by omega)
   have : decide ((l.length : Int) ≤ 8) = true := decide_eq_true (by omega)
   rw [this,Bool.and_true]
   exact h2
  ·have h2 := bimpl_long l (by omega) 8 k 0 (by omega) (by omega) (by omega)
   have : decide ((l.length : Int) ≤ 8) = false := decide_eq_false (by omega)
   rw [this,Bool.and_false]
   exact h2
theorem dig_one (c : Nat) (hc : c < 10) : strOfNums [(wrap64 (48 + (c : Int))) % 256] = (⟨#[UInt8.ofNat (48 + c)]⟩ : ByteArray) := by
 have e : (wrap64 (48 + (c : Int))) % 256 = ((48 + c : Nat) : Int) := by unfold wrap64; omega
 rw [e]
 unfold strOfNums
 rw [List.map_cons,List.map_nil,Int.toNat_natCast]
theorem mk_append (a b : List UInt8) : (⟨a.toArray⟩ : ByteArray) ++ (⟨b.toArray⟩ : ByteArray) = ⟨(a ++ b).toArray⟩ := by
 apply ByteArray.ext
 simp [ByteArray.data_append]
theorem dig_nat (d : Nat) : ∀ (k u : Nat),u < 10 ^ (d + 1) → u ≤ 9223372036854775807 → d < k → d < 100 → spec_l00Digits.f k (u : Int) = some ⟨(Lib.decDigits u).toArray⟩ ∧ (Lib.decDigits u).length ≤ d + 1 := by
 induction d with
 | zero =>
  intro k u hu h0 hk hd
  obtain ⟨k,rfl⟩ : ∃ m,k = m + 1 := ⟨k - 1,by omega⟩
  simp only [spec_l00Digits.f]
  rw [if_neg (by omega),if_neg (by omega),if_pos (by omega),dig_one u (by omega),Lib.decDigits_one (by omega)]
  exact ⟨rfl,by simp⟩
 | succ d ih =>
  intro k u hu h0 hk hd
  obtain ⟨k,rfl⟩ : ∃ m,k = m + 1 := ⟨k - 1,by omega⟩
  simp only [spec_l00Digits.f]
  by_cases h : u < 10
  ·rw [if_neg (by omega),if_neg (by omega),if_pos (by omega),dig_one u h,Lib.decDigits_one h]
   exact ⟨rfl,by simp⟩
  ·have hp : 10 ^ (d + 1 + 1) = 10 ^ (d + 1) * 10 := Nat.pow_succ ..
   have e1 : wrap64 (Int.tdiv (u : Int) 10) = ((u / 10 : Nat) : Int) := by
    have : Int.tdiv (u : Int) 10 = ((u / 10 : Nat) : Int) := by
     rw [Int.tdiv_eq_ediv_of_nonneg (by omega)]; rfl
    rw [this]; unfold wrap64; omega
   have e2 : Int.tmod (u : Int) 10 = ((u % 10 : Nat) : Int) := by
    rw [Int.tmod_eq_emod_of_nonneg (by omega)]; rfl
   obtain ⟨i1,i2⟩ := ih k (u / 10) (by omega) (by omega) (by omega) (by omega)
   rw [if_neg (by omega),if_neg (by omega),if_neg (by omega),e1,i1,e2]
   simp only [Option.bind_some]
   rw [dig_one (u % 10) (by omega),if_pos]
   ·have hd : Lib.decDigits u = Lib.decDigits (u / 10) ++ [UInt8.ofNat (48 + u % 10)] := by
     conv => lhs; rw [Lib.decDigits]
     rw [dif_neg h]
    rw [hd,← mk_append]
    refine ⟨rfl,?_⟩
    rw [List.length_append,List.length_singleton]
    omega
   ·show ((Lib.decDigits (u / 10)).toArray).size + 1 ≤ _
    rw [List.size_toArray]
    omega
theorem digits_eq (n : Int) (h0 : -9223372036854775808 ≤ n) (h1 : n ≤ 9223372036854775807) (k : Nat) (hk : 21 ≤ k) : spec_l00Digits.f k n = some ⟨(Lib.itoa n).toArray⟩ := by
 obtain ⟨k,rfl⟩ : ∃ m,k = m + 1 := ⟨k - 1,by omega⟩
 by_cases hn : n < 0
 ·by_cases hm : n = -9223372036854775808
  ·subst hm
   simp only [spec_l00Digits.f]
   rw [if_pos trivial]
   have e : Lib.itoa (-9223372036854775808) = 45 :: Lib.decDigits 9223372036854775808 := by unfold Lib.itoa; rw [if_pos (by decide)]; rfl
   have hq : Lib.decDigits 9223372036854775808 = Lib.decDigits 922337203685477580 ++ [UInt8.ofNat (48 + 8)] := by
    conv => lhs; rw [Lib.decDigits]
    rw [dif_neg (by decide)]
   rw [e,hq]
   simp [Lib.decDigits]
  ·obtain ⟨u,rfl⟩ : ∃ u : Nat,n = -(u : Int) := ⟨n.natAbs,by omega⟩
   have e : wrap64 (-(-(u : Int))) = (u : Int) := by unfold wrap64; omega
   obtain ⟨i1,i2⟩ := dig_nat 19 k u (by omega) (by omega) (by omega) (by omega)
   simp only [spec_l00Digits.f]
   rw [if_neg hm,if_pos hn,e,i1]
   simp only [Option.bind_some]
   rw [if_pos]
   ·have : Lib.itoa (-(u : Int)) = [45] ++ Lib.decDigits u := by unfold Lib.itoa; rw [if_pos hn]; simp
    rw [this,← mk_append]
   ·show 1 + ((Lib.decDigits u).toArray).size ≤ _
    rw [List.size_toArray]
    omega
 ·obtain ⟨u,rfl⟩ : ∃ u : Nat,n = (u : Int) := ⟨n.toNat,by omega⟩
  rw [(dig_nat 19 (k + 1) u (by omega) (by omega) (by omega) (by omega)).1]
  have : Lib.itoa (u : Int) = Lib.decDigits u := by unfold Lib.itoa; rw [if_neg hn]; simp
  rw [this]
theorem size_mk (l : List UInt8) : (⟨l.toArray⟩ : ByteArray).size = l.length := by
 show l.toArray.size = l.length
 rw [List.size_toArray]
theorem mk_data (s : ByteArray) : (⟨s.data.toList.toArray⟩ : ByteArray) = s := by
 cases s
 simp
theorem bt_mk (l : List UInt8) (i : Nat) (h : i < l.length) : bt ⟨l.toArray⟩ (i : Int) = ((l[i].toNat : Nat) : Int) := by
 rw [← bt_at _ _ (by rw [Int.toNat_natCast,size_mk]; exact h)]
 simp only [Int.toNat_natCast]
 rfl
theorem extract_mk (l : List UInt8) (i : Nat) : (⟨l.toArray⟩ : ByteArray).extract i (⟨l.toArray⟩ : ByteArray).size = ⟨(l.drop i).toArray⟩ := by
 rw [size_mk]
 apply ByteArray.ext
 rw [ByteArray.data_extract]
 simp [List.extract,List.take_of_length_le]
def isDig (c : UInt8) : Bool := decide (48 ≤ c.toNat) && decide (c.toNat ≤ 57)
def dval (a : Nat) (l : List UInt8) : Nat := l.foldl (fun a c => a * 10 + (c.toNat - 48)) a
theorem dval_cons (a : Nat) (c : UInt8) (l : List UInt8) : dval a (c :: l) = dval (a * 10 + (c.toNat - 48)) l := by
 unfold dval
 rw [List.foldl_cons]
theorem dval_append (a : Nat) (l : List UInt8) (c : UInt8) : dval a (l ++ [c]) = dval a l * 10 + (c.toNat - 48) := by
 unfold dval
 rw [List.foldl_append,List.foldl_cons,List.foldl_nil]
theorem dval_ge (l : List UInt8) : ∀ a,a ≤ dval a l := by
 induction l with
 | nil => intro a; exact Nat.le_refl a
 | cons c l ih =>
  intro a
  rw [dval_cons]
  have := ih (a * 10 + (c.toNat - 48))
  omega
theorem dval_lt (l : List UInt8) : ∀ a,(l.all isDig) = true → dval a l < (a + 1) * 10 ^ l.length := by
 induction l with
 | nil => intro a _; simp [dval]
 | cons c l ih =>
  intro a h
  rw [List.all_cons,Bool.and_eq_true] at h
  have h1 : c.toNat ≤ 57 := by have := h.1; simp [isDig] at this; omega
  have := ih (a * 10 + (c.toNat - 48)) h.2
  rw [dval_cons,List.length_cons,Nat.pow_succ]
  refine Nat.lt_of_lt_of_le this ?_
  have e : (a + 1) * (10 ^ l.length * 10) = ((a + 1) * 10) * 10 ^ l.length := by rw [Nat.mul_comm (10 ^ l.length) 10,Nat.mul_assoc]
  rw [e]
  exact Nat.mul_le_mul_right _ (by omega)
theorem parse_ok (l : List UInt8) : ∀ a,(l.all isDig) = true → dval a l ≤ 1000000000000000000 → Lib.parseUint10 a l = .ok (dval a l) := by
 induction l with
 | nil => intro a _ _; rfl
 | cons c l ih =>
  intro a h hb
  rw [List.all_cons,Bool.and_eq_true] at h
  have hc : 48 ≤ c.toNat ∧ c.toNat ≤ 57 := by have := h.1; simp [isDig] at this; omega
  rw [dval_cons] at hb ⊢
  have hg := dval_ge l (a * 10 + (c.toNat - 48))
  simp only [Lib.parseUint10]
  rw [if_pos hc,if_neg (by omega),if_neg (by omega)]
  exact ih _ h.2 hb
theorem ofNat_toNat (n : Nat) (h : n < 256) : (UInt8.ofNat n).toNat = n := by
 simp only [UInt8.toNat_ofNat']
 omega
theorem dec_dig (d : Nat) : ∀ u,u ≤ d → ((Lib.decDigits u).all isDig) = true ∧ dval 0 (Lib.decDigits u) = u ∧ Lib.decDigits u ≠ [] := by
 induction d with
 | zero =>
  intro u h
  obtain rfl : u = 0 := by omega
  rw [Lib.decDigits_one (by decide)]
  exact ⟨by decide,by decide,by simp⟩
 | succ d ih =>
  intro u h
  by_cases hu : u < 10
  ·rw [Lib.decDigits_one hu]
   have e := ofNat_toNat (48 + u) (by omega)
   refine ⟨?_,?_,by simp⟩
   ·simp only [List.all_cons,List.all_nil,Bool.and_true,isDig,e]
    simp
    omega
   ·show 0 * 10 + ((UInt8.ofNat (48 + u)).toNat - 48) = u
    rw [e]; omega
  ·have hs : Lib.decDigits u = Lib.decDigits (u / 10) ++ [UInt8.ofNat (48 + u % 10)] := by
    conv => lhs; rw [Lib.decDigits]
    rw [dif_neg hu]
   obtain ⟨i1,i2,i3⟩ := ih (u / 10) (by omega)
   have e := ofNat_toNat (48 + u % 10) (by omega)
   rw [hs]
   refine ⟨?_,?_,by simp⟩
   ·rw [List.all_append,i1]
    simp only [List.all_cons,List.all_nil,Bool.and_true,isDig,e,Bool.true_and]
    simp
    omega
   ·rw [dval_append,i2,e]; omega
theorem dec_head (d : Nat) : ∀ u,u ≤ d → 1 ≤ u → ∃ c l,Lib.decDigits u = c :: l ∧ c.toNat ≠ 48 := by
 induction d with
 | zero => intro u h h1; omega
 | succ d ih =>
  intro u h h1
  by_cases hu : u < 10
  ·rw [Lib.decDigits_one hu]
   exact ⟨_,_,rfl,by rw [ofNat_toNat _ (by omega)]; omega⟩
  ·have hs : Lib.decDigits u = Lib.decDigits (u / 10) ++ [UInt8.ofNat (48 + u % 10)] := by
    conv => lhs; rw [Lib.decDigits]
    rw [dif_neg hu]
   obtain ⟨c,l,e,hc⟩ := ih (u / 10) (by omega) (by omega)
   rw [hs,e]
   exact ⟨c,_,rfl,hc⟩
theorem dec_len (w : Nat) : ∀ u,u < 10 ^ (w + 1) → (Lib.decDigits u).length ≤ w + 1 := by
 induction w with
 | zero => intro u h; rw [Lib.decDigits_one (by simpa using h)]; simp
 | succ w ih =>
  intro u h
  have hp : 10 ^ (w + 1 + 1) = 10 ^ (w + 1) * 10 := Nat.pow_succ ..
  by_cases hu : u < 10
  ·rw [Lib.decDigits_one hu]; simp
  ·have hs : Lib.decDigits u = Lib.decDigits (u / 10) ++ [UInt8.ofNat (48 + u % 10)] := by
    conv => lhs; rw [Lib.decDigits]
    rw [dif_neg hu]
   rw [hs,List.length_append,List.length_singleton]
   have := ih (u / 10) (by omega)
   omega
theorem itoa_of_nat (u : Nat) : Lib.itoa (u : Int) = Lib.decDigits u := by unfold Lib.itoa; rw [if_neg (by omega)]; simp
theorem itoa_of_neg (u : Nat) (h : 1 ≤ u) : Lib.itoa (-(u : Int)) = 45 :: Lib.decDigits u := by unfold Lib.itoa; rw [if_pos (by omega)]; simp
theorem atoi_itoa (v : Int) (h0 : -1000000000000000000 < v) (h1 : v < 1000000000000000000) : Lib.atoiAll (Lib.itoa v) = .ok v := by
 by_cases hv : v < 0
 ·obtain ⟨u,rfl⟩ : ∃ u : Nat,v = -(u : Int) := ⟨v.natAbs,by omega⟩
  rw [itoa_of_neg u (by omega),Lib.atoiAll_minus]
  obtain ⟨i1,i2,i3⟩ := dec_dig u u (Nat.le_refl u)
  have hp : Lib.parseMag (Lib.decDigits u) = .ok u := by
   unfold Lib.parseMag
   rw [if_neg i3,parse_ok _ 0 i1 (by rw [i2]; omega),i2]
  rw [hp]
  unfold Lib.signed
  simp only
  rw [if_neg (by omega)]
 ·obtain ⟨u,rfl⟩ : ∃ u : Nat,v = (u : Int) := ⟨v.toNat,by omega⟩
  rw [itoa_of_nat u]
  obtain ⟨i1,i2,i3⟩ := dec_dig u u (Nat.le_refl u)
  have hp : Lib.parseMag (Lib.decDigits u) = .ok u := by
   unfold Lib.parseMag
   rw [if_neg i3,parse_ok _ 0 i1 (by rw [i2]; omega),i2]
  cases hd : Lib.decDigits u with
  | nil => exact absurd hd i3
  | cons c r =>
   rw [hd] at i1 hp
   have hc : 48 ≤ c.toNat := by rw [List.all_cons,Bool.and_eq_true] at i1; have := i1.1; simp [isDig] at this; omega
   rw [Lib.atoiAll_plain c r (by omega) (by omega),hp]
   unfold Lib.signless
   simp only
   rw [if_neg (by omega)]
theorem wrap_id (n : Int) (h0 : -9223372036854775808 ≤ n) (h1 : n ≤ 9223372036854775807) : wrap64 n = n := by
 unfold wrap64
 omega
theorem num_loop (sign : Int) (l : List UInt8) (hl : l.length ≤ 18) (d : Nat) : ∀ (k i a : Nat),i ≤ l.length → l.length - i = d → d < k → a < 10 ^ i →
  spec_l00Number.l0 k ⟨l.toArray⟩ sign (a : Int) (i : Int) = some (if (l.drop i).all isDig = true then (wrap64 (sign * (dval a (l.drop i) : Int)),true) else (0,false)) := by
 induction d with
 | zero =>
  intro k i a hi hd hk ha
  obtain ⟨k,rfl⟩ : ∃ m,k = m + 1 := ⟨k - 1,by omega⟩
  obtain rfl : i = l.length := by omega
  simp only [spec_l00Number.l0]
  rw [if_neg (by rw [size_mk]; omega),List.drop_length]
  simp [dval]
 | succ d ih =>
  intro k i a hi hd hk ha
  obtain ⟨k,rfl⟩ : ∃ m,k = m + 1 := ⟨k - 1,by omega⟩
  have hlt : i < l.length := by omega
  have hp : 10 ^ i ≤ 100000000000000000 := by have := Nat.pow_le_pow_right (n:=10) (by decide) (show i ≤ 17 by omega); simpa using this
  have ha2 : a < 100000000000000000 := Nat.lt_of_lt_of_le ha hp
  have hps : 10 ^ (i + 1) = 10 ^ i * 10 := Nat.pow_succ ..
  have hb := bt_mk l i hlt
  have hdr := List.drop_eq_getElem_cons hlt
  simp only [spec_l00Number.l0]
  rw [if_pos (by rw [size_mk]; omega),if_pos (by omega),hb,hdr,List.all_cons]
  generalize l[i] = c
  have hc := c.toNat_lt
  by_cases h1 : (c.toNat : Int) < 48
  ·rw [if_pos h1,show isDig c = false by simp [isDig]; omega]
   simp
  ·rw [if_neg h1]
   by_cases h2 : (c.toNat : Int) > 57
   ·rw [if_pos h2,show isDig c = false by simp [isDig]; omega]
    simp
   ·rw [if_neg h2,show isDig c = true by simp [isDig]; omega]
    have hx : a * 10 + (c.toNat - 48) < 10 ^ (i + 1) := by rw [hps]; omega
    have ih' := ih k (i + 1) (a * 10 + (c.toNat - 48)) (by omega) (by omega) (by omega) hx
    have e1 : wrap64 ((wrap64 ((wrap64 ((a : Int) * 10)) + (wrap64 (c.toNat : Int)))) - 48) = ((a * 10 + (c.toNat - 48) : Nat) : Int) := by
     clear ih ih' hx hps hp ha hb hdr
     have q0 : (c.toNat : Int) ≤ 57 := by omega
     have q1 : (48 : Int) ≤ (c.toNat : Int) := by omega
     have q2 : (a : Int) < 100000000000000000 := by omega
     rw [wrap_id ((a : Int) * 10) (by omega) (by omega),wrap_id (c.toNat : Int) (by omega) (by omega),wrap_id ((a : Int) * 10 + (c.toNat : Int)) (by omega) (by omega),wrap_id ((a : Int) * 10 + (c.toNat : Int) - 48) (by omega) (by omega)]
     omega
    have e2 : wrap64 ((i : Int) + 1) = ((i + 1 : Nat) : Int) := by clear e1; rw [wrap_id ((i : Int) + 1) (by omega) (by omega)]; omega
    rw [e1,e2,ih',dval_cons,Bool.true_and]
def numM (m : List UInt8) (neg : Bool) : Int × Bool := if m = [] ∨ 18 < m.length ∨ (m.head? = some 48 ∧ (1 < m.length ∨ neg = true)) then (0,false) else if m.all isDig = true then ((if neg = true then -(dval 0 m : Int) else (dval 0 m : Int)),true) else (0,false)
theorem num_j1 (m : List UInt8) (neg : Bool) (k : Nat) (hk : 24 ≤ k) : spec_l00Number.j1 k ⟨m.toArray⟩ (if neg = true then -1 else 1) = some (numM m neg) := by
 obtain ⟨k,rfl⟩ : ∃ q,k = q + 2 := ⟨k - 2,by omega⟩
 simp only [spec_l00Number.j1,spec_l00Number.j2,size_mk,if_true]
 unfold numM
 cases m with
 | nil => simp
 | cons c r =>
  rw [if_neg (by simp <;> omega)]
  by_cases h18 : (((c :: r).length : Nat) : Int) > 18
  ·rw [if_pos h18,if_pos (.inr (.inl (by omega)))]
  ·rw [if_neg h18,if_pos (by simp <;> omega)]
   have hb := bt_mk (c :: r) 0 (by simp)
   rw [show ((0 : Nat) : Int) = 0 from rfl] at hb
   rw [hb]
   have hl := num_loop (if neg = true then -1 else 1) (c :: r) (by omega) (c :: r).length k 0 0 (by omega) (by omega) (by omega) (by simp)
   rw [show ((0 : Nat) : Int) = 0 from rfl,List.drop_zero] at hl
   have hd : (c :: r).all isDig = true → dval 0 (c :: r) < 1000000000000000000 := fun h => by
    have := dval_lt (c :: r) 0 h
    have hp : 10 ^ (c :: r).length ≤ 1000000000000000000 := by have := Nat.pow_le_pow_right (n:=10) (by decide) (show (c :: r).length ≤ 18 by omega); simpa using this
    omega
   have hw : (c :: r).all isDig = true → wrap64 ((if neg = true then -1 else 1) * (dval 0 (c :: r) : Int)) = (if neg = true then -(dval 0 (c :: r) : Int) else (dval 0 (c :: r) : Int)) := fun h => by
    have := hd h
    cases neg <;> (simp; unfold wrap64; omega)
   have hfin : (if (c :: r).all isDig = true then (wrap64 ((if neg = true then -1 else 1) * (dval 0 (c :: r) : Int)),true) else (0,false)) = (if (c :: r).all isDig = true then ((if neg = true then -(dval 0 (c :: r) : Int) else (dval 0 (c :: r) : Int)),true) else ((0 : Int),false)) := by
    by_cases h : (c :: r).all isDig = true
    ·rw [if_pos h,if_pos h,hw h]
    ·rw [if_neg h,if_neg h]
   have hc : (((c :: r)[0]'(by simp)).toNat : Int) = 48 ↔ (c :: r).head? = some 48 := by
    simp only [List.getElem_cons_zero,List.head?_cons,Option.some.injEq]
    constructor
    ·intro h; apply UInt8.toNat_inj.1; show c.toNat = 48; omega
    ·intro h; rw [h]; rfl
   by_cases h48 : (((c :: r)[0]'(by simp)).toNat : Int) = 48
   ·rw [if_pos h48]
    by_cases h1 : (((c :: r).length : Nat) : Int) > 1
    ·rw [if_pos h1,if_pos (.inr (.inr ⟨hc.1 h48,.inl (by omega)⟩))]
    ·rw [if_neg h1]
     cases neg with
     | true => rw [if_pos (show (c :: r) = [] ∨ _ from .inr (.inr ⟨hc.1 h48,.inr rfl⟩))]; simp
     | false =>
      rw [if_neg (show ¬ ((c :: r) = [] ∨ 18 < (c :: r).length ∨ ((c :: r).head? = some 48 ∧ (1 < (c :: r).length ∨ false = true))) from by
       rintro (h | h | ⟨_,h | h⟩)
       ·cases h
       ·omega
       ·omega
       ·cases h),← hfin,← hl]
      simp
   ·rw [if_neg h48,if_neg (show ¬ ((c :: r) = [] ∨ 18 < (c :: r).length ∨ ((c :: r).head? = some 48 ∧ (1 < (c :: r).length ∨ neg = true))) by
     rintro (h | h | ⟨h,_⟩)
     ·cases h
     ·omega
     ·exact h48 (hc.2 h)),← hfin,← hl]
    simp
def numR (l : List UInt8) : Int × Bool := match l with
 | [] => (0,false)
 | c :: r => if c = 45 then numM r true else numM (c :: r) false
theorem number_spec (l : List UInt8) (k : Nat) (hk : 25 ≤ k) : spec_l00Number.f k ⟨l.toArray⟩ = some (numR l) := by
 obtain ⟨k,rfl⟩ : ∃ q,k = q + 1 := ⟨k - 1,by omega⟩
 unfold spec_l00Number.f numR
 have h1 := num_j1 l false k (by omega)
 cases l with
 | nil =>
  rw [if_neg (by simp [size_mk])]
  simp only [spec_l00Number.j0]
  rw [if_neg (by simp)]
  rw [if_neg (by simp)] at h1
  rw [h1]
  rfl
 | cons c r =>
  rw [if_pos (by rw [size_mk]; simp <;> omega),if_pos (by rw [size_mk]; simp <;> omega)]
  have hb := bt_mk (c :: r) 0 (by simp)
  rw [show ((0 : Nat) : Int) = 0 from rfl] at hb
  rw [hb]
  simp only [spec_l00Number.j0,List.getElem_cons_zero]
  by_cases hc : c = 45
  ·subst hc
   rw [if_pos (by decide),if_pos (by rw [size_mk]; simp <;> omega),if_pos rfl]
   have h2 := num_j1 r true k (by omega)
   rw [if_pos rfl] at h2
   have e := extract_mk (45 :: r) 1
   rw [e]
   exact h2
  ·have hn : ((c.toNat : Int) == 45) = false := by
    rw [beq_eq_false_iff_ne]
    intro h
    apply hc
    apply UInt8.toNat_inj.1
    show c.toNat = 45
    omega
   simp only [hn,if_neg hc,Bool.false_eq_true,if_false] at h1 ⊢
   exact h1
theorem numM_bound (m : List UInt8) (neg : Bool) (n : Int) (h : numM m neg = (n,true)) : -1000000000000000000 < n ∧ n < 1000000000000000000 := by
 unfold numM at h
 split at h
 ·cases h
 ·rename_i h0
  split at h
  ·rename_i h1
   have := dval_lt m 0 h1
   have hp : 10 ^ m.length ≤ 1000000000000000000 := by have := Nat.pow_le_pow_right (n:=10) (by decide) (show m.length ≤ 18 by omega); simpa using this
   obtain ⟨rfl,_⟩ := Prod.mk.inj h
   cases neg <;> (simp; omega)
  ·cases h
theorem numR_bound (l : List UInt8) (n : Int) (h : numR l = (n,true)) : -1000000000000000000 < n ∧ n < 1000000000000000000 := by
 unfold numR at h
 split at h
 ·cases h
 ·split at h
  ·exact numM_bound _ _ _ h
  ·exact numM_bound _ _ _ h
theorem numM_num (m : List UInt8) (neg : Bool) : -9223372036854775808 ≤ (numM m neg).1 ∧ (numM m neg).1 ≤ 9223372036854775807 := by
 rcases h : numM m neg with ⟨n,b⟩
 cases b with
 | true => have := numM_bound m neg n h; show _ ≤ n ∧ n ≤ _; omega
 | false =>
  unfold numM at h
  split at h
  ·obtain ⟨rfl,_⟩ := Prod.mk.inj h; decide
  ·split at h
   ·cases h
   ·obtain ⟨rfl,_⟩ := Prod.mk.inj h; decide
theorem numR_num (l : List UInt8) : -9223372036854775808 ≤ (numR l).1 ∧ (numR l).1 ≤ 9223372036854775807 := by
 unfold numR
 split
 ·decide
 ·split
  ·exact numM_num _ _
  ·exact numM_num _ _
theorem numR_itoa (v : Int) (h0 : -1000000000000000000 < v) (h1 : v < 1000000000000000000) : numR (Lib.itoa v) = (v,true) := by
 by_cases hv : v < 0
 ·obtain ⟨u,rfl⟩ : ∃ u : Nat,v = -(u : Int) := ⟨v.natAbs,by omega⟩
  rw [itoa_of_neg u (by omega)]
  obtain ⟨i1,i2,i3⟩ := dec_dig u u (Nat.le_refl u)
  obtain ⟨c,l,e,hc⟩ := dec_head u u (Nat.le_refl u) (by omega)
  have hlen := dec_len 17 u (by omega)
  unfold numR numM
  simp only [if_true]
  rw [if_neg,if_pos i1,i2]
  rintro (h | h | ⟨h,_⟩)
  ·exact i3 h
  ·omega
  ·rw [e] at h
   simp at h
   exact hc (by rw [h]; rfl)
 ·obtain ⟨u,rfl⟩ : ∃ u : Nat,v = (u : Int) := ⟨v.toNat,by omega⟩
  rw [itoa_of_nat u]
  obtain ⟨i1,i2,i3⟩ := dec_dig u u (Nat.le_refl u)
  have hlen := dec_len 17 u (by omega)
  have hm : numM (Lib.decDigits u) false = ((u : Int),true) := by
   unfold numM
   rw [if_neg,if_pos i1,i2]
   ·simp
   ·rintro (h | h | ⟨h,h2⟩)
    ·exact i3 h
    ·omega
    ·by_cases hu : u < 10
     ·rw [Lib.decDigits_one hu] at h2; simp at h2
     ·obtain ⟨c,l,e,hc⟩ := dec_head u u (Nat.le_refl u) (by omega)
      rw [e] at h
      simp at h
      exact hc (by rw [h]; rfl)
  unfold numR
  cases hd : Lib.decDigits u with
  | nil => exact absurd hd i3
  | cons c r =>
   rw [hd] at i1 hm
   have hc : 48 ≤ c.toNat := by rw [List.all_cons,Bool.and_eq_true] at i1; have := i1.1; simp [isDig] at this; omega
   simp only
   rw [if_neg (by intro h; rw [h] at hc; revert hc; decide)]
   exact hm
def isNum (s : ByteArray) (v : Int) : Prop := -1000000000000000000 < v ∧ v < 1000000000000000000 ∧ s = ⟨(Lib.itoa v).toArray⟩
theorem num_spec (s : ByteArray) (k : Nat) (hk : 25 ≤ k) : ∃ n b,spec_l02Number.f k s = some (n,b) ∧ (b = true → isNum s n) ∧ ∀ v,isNum s v → b = true ∧ n = v := by
 unfold spec_l02Number.f
 have hs := number_spec s.data.toList k hk
 rw [mk_data] at hs
 rw [hs]
 simp only [Option.bind_some]
 rcases hr : numR s.data.toList with ⟨n,b⟩
 have hn := numR_num s.data.toList
 rw [hr] at hn
 cases b with
 | false =>
  refine ⟨n,false,by simp,by simp,fun v hv => ?_⟩
  obtain ⟨v0,v1,hv⟩ := hv
  subst hv
  have : (⟨(Lib.itoa v).toArray⟩ : ByteArray).data.toList = Lib.itoa v := rfl
  rw [this,numR_itoa v v0 v1] at hr
  cases hr
 | true =>
  have hb := numR_bound _ _ hr
  simp only [if_true]
  rw [digits_eq n hn.1 hn.2 k (by omega)]
  simp only [Option.bind_some]
  refine ⟨n,_,rfl,fun h => ⟨hb.1,hb.2,?_⟩,fun v hv => ?_⟩
  ·have h := beq_iff_eq.1 h
   rw [ByteArray.toList_eq,ByteArray.toList_eq] at h
   have : (⟨(Lib.itoa n).toArray⟩ : ByteArray).data.toList = s.data.toList := h
   rw [← mk_data s,← this]
  ·obtain ⟨v0,v1,hv⟩ := hv
   subst hv
   have : (⟨(Lib.itoa v).toArray⟩ : ByteArray).data.toList = Lib.itoa v := rfl
   rw [this,numR_itoa v v0 v1] at hr
   obtain ⟨rfl,_⟩ := Prod.mk.inj hr
   exact ⟨by simp,rfl⟩
theorem num_impl (s : ByteArray) (hs : s.size ≤ 1048576) : ∃ n b,impl_number.f s = some (n,b) ∧ (b = true → isNum s n) ∧ ∀ v,isNum s v → b = true ∧ n = v := by
 unfold impl_number.f
 rw [if_pos (by omega)]
 rcases hr : numB s with ⟨n,b⟩
 refine ⟨n,b,rfl,fun h => ?_,fun v hv => ?_⟩
 ·subst h
  unfold numB at hr
  split at hr
  ·obtain ⟨rfl,h2⟩ := Prod.mk.inj hr
   simp only [Bool.and_eq_true,decide_eq_true_eq] at h2
   obtain ⟨h3,h4,h5⟩ := h2
   refine ⟨by omega,by omega,?_⟩
   have h := beq_iff_eq.1 h3
   rw [ByteArray.toList_eq,ByteArray.toList_eq] at h
   unfold strI at h
   rw [← mk_data s,← h]
  ·cases hr
  ·cases hr
 ·obtain ⟨v0,v1,hv⟩ := hv
  subst hv
  unfold numB at hr
  have e : (⟨(Lib.itoa v).toArray⟩ : ByteArray).data.toList = Lib.itoa v := rfl
  rw [e,atoi_itoa v v0 v1] at hr
  obtain ⟨rfl,h2⟩ := Prod.mk.inj hr
  subst h2
  refine ⟨?_,rfl⟩
  simp only [strI,Bool.and_eq_true,decide_eq_true_eq]
  exact ⟨by simp,by omega,by omega⟩
theorem num_same (s : ByteArray) (hs : s.size ≤ 1048576) (k : Nat) (hk : 25 ≤ k) : ∃ n m b,spec_l02Number.f k s = some (n,b) ∧ impl_number.f s = some (m,b) ∧ (b = true → n = m) := by
 obtain ⟨n,b,h1,h2,h3⟩ := num_spec s k hk
 obtain ⟨m,c,g1,g2,g3⟩ := num_impl s hs
 cases b with
 | true =>
  obtain ⟨hc,hm⟩ := g3 n (h2 rfl)
  subst hc
  exact ⟨n,m,true,h1,g1,fun _ => hm.symm⟩
 | false =>
  cases c with
  | false => exact ⟨n,m,false,h1,g1,by simp⟩
  | true => have := (h3 m (g2 rfl)).1; cases this
def pieces (c : UInt8) : List UInt8 → List (List UInt8)
 | [] => [[]]
 | b :: l => if b = c then [] :: pieces c l else match pieces c l with
  | p :: ps => (b :: p) :: ps
  | [] => [[b]]
theorem pieces_ne (c : UInt8) : ∀ l,pieces c l ≠ []
 | [] => by simp [pieces]
 | b :: l => by
  unfold pieces
  split
  ·simp
  ·split <;> simp
theorem pieces_len (c : UInt8) : ∀ l,(pieces c l).length ≤ l.length + 1
 | [] => by simp [pieces]
 | b :: l => by
  have ih := pieces_len c l
  unfold pieces
  split
  ·simp only [List.length_cons]; omega
  ·split
   ·rename_i p ps h; rw [h] at ih; simp only [List.length_cons] at ih ⊢; omega
   ·simp
theorem pieces_bytes (c : UInt8) : ∀ l,∀ p ∈ pieces c l,p.length ≤ l.length
 | [],p,hp => by simp [pieces] at hp; simp [hp]
 | b :: l,p,hp => by
  have ih := pieces_bytes c l
  unfold pieces at hp
  split at hp
  ·rcases List.mem_cons.1 hp with rfl | hp
   ·simp
   ·have := ih p hp; simp only [List.length_cons]; omega
  ·split at hp
   ·rename_i q qs h
    rw [h] at ih
    rcases List.mem_cons.1 hp with rfl | hp
    ·have := ih q (by simp); simp only [List.length_cons]; omega
    ·have := ih p (by simp [hp]); simp only [List.length_cons]; omega
   ·simp at hp; subst hp; simp
theorem pieces_app (c : UInt8) (b : List UInt8) : ∀ a,c ∉ a → pieces c (a ++ c :: b) = a :: pieces c b
 | [],_ => by simp [pieces]
 | x :: a,h => by
  have hx : ¬ x = c := fun e => h (by simp [e])
  have ih := pieces_app c b a (fun e => h (by simp [e]))
  show pieces c (x :: (a ++ c :: b)) = _
  rw [pieces,if_neg hx,ih]
theorem pieces_none (c : UInt8) : ∀ a,c ∉ a → pieces c a = [a]
 | [],_ => rfl
 | x :: a,h => by
  have hx : ¬ x = c := fun e => h (by simp [e])
  have ih := pieces_none c a (fun e => h (by simp [e]))
  rw [pieces,if_neg hx,ih]
theorem index_one (c : UInt8) : ∀ l,(Lib.index l [c] = -1 ∧ c ∉ l) ∨ (∃ i : Nat,Lib.index l [c] = i ∧ i < l.length ∧ c ∉ l.take i ∧ l = l.take i ++ c :: l.drop (i + 1))
 | [] => .inl ⟨rfl,by simp⟩
 | b :: l => by
  unfold Lib.index
  by_cases hb : b = c
  ·subst hb
   refine .inr ⟨0,?_,by simp,by simp,by simp⟩
   rw [if_pos (by simp)]
   rfl
  ·rw [if_neg (by simp [List.isPrefixOf]; exact fun e => hb e.symm)]
   rcases index_one c l with ⟨h1,h2⟩ | ⟨i,h1,h2,h3,h4⟩
   ·refine .inl ⟨by rw [h1]; rfl,?_⟩
    rintro h
    rcases List.mem_cons.1 h with e | h
    ·exact hb e.symm
    ·exact h2 h
   ·refine .inr ⟨i + 1,?_,by simp only [List.length_cons]; omega,?_,?_⟩
    ·rw [h1,if_neg (by rw [beq_iff_eq]; omega)]
     rfl
    ·rw [List.take_succ_cons]
     rintro h
     rcases List.mem_cons.1 h with e | h
     ·exact hb e.symm
     ·exact h3 h
    ·rw [List.take_succ_cons,List.drop_succ_cons,List.cons_append,← h4]
theorem extract_take (l : List UInt8) (i : Nat) : (⟨l.toArray⟩ : ByteArray).extract 0 i = ⟨(l.take i).toArray⟩ := by
 apply ByteArray.ext
 rw [ByteArray.data_extract]
 simp [List.extract]
theorem splitB_pieces (c : UInt8) : ∀ (m : Nat) (l : List UInt8),
  ((pieces c l).length ≤ m + 1 → Lib.splitB ⟨#[c]⟩ 0 m ⟨l.toArray⟩ = (pieces c l).map fun p => (⟨p.toArray⟩ : ByteArray)) ∧ (m + 1 < (pieces c l).length → (Lib.splitB ⟨#[c]⟩ 0 m ⟨l.toArray⟩).length = m + 1)
 | 0,l => by
  refine ⟨fun h => ?_,fun _ => rfl⟩
  rcases index_one c l with ⟨h1,h2⟩ | ⟨i,h1,h2,h3,h4⟩
  ·rw [pieces_none c l h2]; rfl
  ·rw [h4,pieces_app c _ _ h3] at h
   have := pieces_ne c (l.drop (i + 1))
   have : 0 < (pieces c (l.drop (i + 1))).length := List.length_pos_iff.2 this
   simp only [List.length_cons] at h
   omega
 | m + 1,l => by
  have hB : Lib.indexB (⟨l.toArray⟩ : ByteArray) ⟨#[c]⟩ = Lib.index l [c] := rfl
  rcases index_one c l with ⟨h1,h2⟩ | ⟨i,h1,h2,h3,h4⟩
  ·rw [Lib.splitB_miss _ _ _ _ (by rw [hB,h1]),pieces_none c l h2]
   exact ⟨fun _ => rfl,fun h => by simp at h⟩
  ·rw [Lib.splitB_hit _ _ _ _ i (by rw [hB,h1])]
   have ih := splitB_pieces c m (l.drop (i + 1))
   have e1 : (⟨l.toArray⟩ : ByteArray).extract 0 (i + 0) = ⟨(l.take i).toArray⟩ := extract_take l i
   have e2 : (⟨l.toArray⟩ : ByteArray).extract (i + (⟨#[c]⟩ : ByteArray).size) (⟨l.toArray⟩ : ByteArray).size = ⟨(l.drop (i + 1)).toArray⟩ := extract_mk l (i + 1)
   rw [e1,e2]
   have hp : pieces c l = l.take i :: pieces c (l.drop (i + 1)) := by
    conv => lhs; rw [h4]
    exact pieces_app c _ _ h3
   rw [hp]
   simp only [List.length_cons,List.map_cons]
   refine ⟨fun h => ?_,fun h => ?_⟩
   ·rw [ih.1 (by omega)]
   ·rw [ih.2 (by omega)]
theorem splitB_size (c : UInt8) : ∀ (m : Nat) (l : List UInt8),∀ p ∈ Lib.splitB ⟨#[c]⟩ 0 m ⟨l.toArray⟩,p.size ≤ l.length
 | 0,l,p,hp => by
  rw [Lib.splitB_zero] at hp
  rw [List.mem_singleton.1 hp,size_mk]
  exact Nat.le_refl _
 | m + 1,l,p,hp => by
  have hB : Lib.indexB (⟨l.toArray⟩ : ByteArray) ⟨#[c]⟩ = Lib.index l [c] := rfl
  rcases index_one c l with ⟨h1,h2⟩ | ⟨i,h1,h2,h3,h4⟩
  ·rw [Lib.splitB_miss _ _ _ _ (by rw [hB,h1])] at hp
   rw [List.mem_singleton.1 hp,size_mk]
   exact Nat.le_refl _
  ·rw [Lib.splitB_hit _ _ _ _ i (by rw [hB,h1])] at hp
   have e1 : (⟨l.toArray⟩ : ByteArray).extract 0 (i + 0) = ⟨(l.take i).toArray⟩ := extract_take l i
   have e2 : (⟨l.toArray⟩ : ByteArray).extract (i + (⟨#[c]⟩ : ByteArray).size) (⟨l.toArray⟩ : ByteArray).size = ⟨(l.drop (i + 1)).toArray⟩ := extract_mk l (i + 1)
   rw [e1,e2] at hp
   rcases List.mem_cons.1 hp with rfl | hp
   ·rw [size_mk,List.length_take]; omega
   ·have := splitB_size c m _ p hp
    rw [List.length_drop] at this
    omega
def mkP (l : List (List UInt8)) : List ByteArray := l.map fun p => (⟨p.toArray⟩ : ByteArray)
def joinH (p : List UInt8) : List (List UInt8) → List (List UInt8)
 | q :: qs => (p ++ q) :: qs
 | [] => [p]
theorem extract_mid (l : List UInt8) (i j : Nat) : (⟨l.toArray⟩ : ByteArray).extract i j = ⟨((l.drop i).take (j - i)).toArray⟩ := by
 apply ByteArray.ext
 rw [ByteArray.data_extract]
 simp [List.extract,List.take_drop]
theorem cut_loop (c : UInt8) (l : List UInt8) (hl : l.length ≤ 1048576) (d : Nat) : ∀ (k i f : Nat) (out : List ByteArray),i ≤ l.length → f ≤ i → out.length ≤ i → l.length - i = d → d < k →
  spec_l00Cut.l0 k ⟨l.toArray⟩ ((c.toNat : Nat) : Int) out (f : Int) (i : Int) = some (out ++ mkP (joinH ((l.drop f).take (i - f)) (pieces c (l.drop i)))) := by
 induction d with
 | zero =>
  intro k i f out hi hf ho hd hk
  obtain ⟨k,rfl⟩ : ∃ m,k = m + 1 := ⟨k - 1,by omega⟩
  obtain rfl : i = l.length := by omega
  simp only [spec_l00Cut.l0]
  rw [if_neg (by rw [size_mk]; omega),if_pos (by omega),if_pos (by rw [size_mk]; omega),if_pos (by omega),List.drop_length,Int.toNat_natCast,extract_mk]
  simp [pieces,joinH,mkP,List.take_of_length_le]
 | succ d ih =>
  intro k i f out hi hf ho hd hk
  obtain ⟨k,rfl⟩ : ∃ m,k = m + 1 := ⟨k - 1,by omega⟩
  have hlt : i < l.length := by omega
  have hb := bt_mk l i hlt
  have hdr := List.drop_eq_getElem_cons hlt
  have hw : wrap64 ((i : Int) + 1) = ((i + 1 : Nat) : Int) := by unfold wrap64; omega
  simp only [spec_l00Cut.l0]
  rw [if_pos (by rw [size_mk]; omega),if_pos (by omega),hb,hdr,hw]
  by_cases hc : l[i] = c
  ·rw [if_pos (by rw [hc]),if_pos (by omega),if_pos (by omega),if_pos (by rw [size_mk]; omega),if_pos (by omega),Int.toNat_natCast,Int.toNat_natCast,extract_mid,
    ih k (i + 1) (i + 1) _ (by omega) (by omega) (by rw [List.length_append,List.length_singleton]; omega) (by omega) (by omega)]
   rw [pieces,if_pos hc,Nat.sub_self,List.take_zero]
   cases hp : pieces c (l.drop (i + 1)) with
   | nil => exact absurd hp (pieces_ne c _)
   | cons p ps => simp [joinH,mkP]
  ·have hn : ¬ ((l[i].toNat : Nat) : Int) = ((c.toNat : Nat) : Int) := fun e => hc (UInt8.toNat_inj.1 (by omega))
   rw [if_neg hn,ih k (i + 1) f out (by omega) (by omega) (by omega) (by omega) (by omega)]
   rw [pieces,if_neg hc]
   have ht : (l.drop f).take (i + 1 - f) = (l.drop f).take (i - f) ++ [l[i]] := by
    rw [show i + 1 - f = (i - f) + 1 by omega,List.take_succ_eq_append_getElem (by rw [List.length_drop]; omega)]
    congr 2
    rw [List.getElem_drop]
    congr 1
    omega
   rw [ht]
   cases hp : pieces c (l.drop (i + 1)) with
   | nil => exact absurd hp (pieces_ne c _)
   | cons p ps => simp [joinH,mkP]
theorem cut_eq (s : ByteArray) (c : UInt8) (hs : s.size ≤ 1048576) (k : Nat) (hk : s.size < k) : spec_l00Cut.f k s ((c.toNat : Nat) : Int) = some (mkP (pieces c s.data.toList)) := by
 unfold spec_l00Cut.f
 have hsz : s.size = s.data.toList.length := by rw [Array.length_toList]; rfl
 have h := cut_loop c s.data.toList (by omega) s.data.toList.length k 0 0 [] (by omega) (by omega) (by simp) (by omega) (by omega)
 rw [mk_data] at h
 rw [show ((0 : Nat) : Int) = 0 from rfl] at h
 rw [h,List.drop_zero,Nat.sub_self,List.take_zero]
 cases hp : pieces c s.data.toList with
 | nil => exact absurd hp (pieces_ne c _)
 | cons p ps => simp [joinH]
theorem splitN_eq (s : ByteArray) (c : UInt8) (n : Nat) (hn : 1 ≤ n) (hs : s.size ≤ 1048576) (hn2 : n ≤ 4096) : ∃ L,strings_SplitN.f s ⟨#[c]⟩ ((n + 1 : Nat) : Int) = some L ∧ (L.length = n ↔ (pieces c s.data.toList).length = n) ∧ (L.length = n → L = mkP (pieces c s.data.toList)) ∧ L.length ≤ n + 1 ∧ ((pieces c s.data.toList).length ≤ n + 1 → L = mkP (pieces c s.data.toList)) ∧ (n + 1 < (pieces c s.data.toList).length → L.length = n + 1) ∧ ∀ p ∈ L,p.size ≤ s.size := by
 unfold strings_SplitN.f
 rw [if_pos ⟨by omega,Nat.le_refl 1,by omega,by omega⟩]
 refine ⟨_,rfl,?_⟩
 unfold splitB
 rw [Int.toNat_natCast]
 have hsz : s.size = s.data.toList.length := by rw [Array.length_toList]; rfl
 have hpl := pieces_len c s.data.toList
 have h := splitB_pieces c (min (n + 1) (s.size + 1) - 1) s.data.toList
 have hz := splitB_size c (min (n + 1) (s.size + 1) - 1) s.data.toList
 rw [mk_data] at h hz
 rw [← hsz] at hz
 by_cases hle : (pieces c s.data.toList).length ≤ min (n + 1) (s.size + 1) - 1 + 1
 ·have h1 := h.1 hle
  rw [h1] at hz ⊢
  exact ⟨by rw [List.length_map],fun _ => rfl,by rw [List.length_map]; omega,fun _ => rfl,fun e => by rw [List.length_map]; omega,hz⟩
 ·have h2 := h.2 (by omega)
  rw [h2]
  exact ⟨by omega,fun e => by omega,by omega,fun e => by omega,fun e => by omega,hz⟩
theorem rdOf_at (L : List ByteArray) (i : Nat) (h : i < L.length) : rdOf ByteArray.empty L (i : Int) = L[i] := by
 unfold rdOf
 rw [Int.toNat_natCast,List.getD_eq_getElem?_getD,List.getElem?_eq_getElem h]
 rfl
theorem numbers_loops (L : List ByteArray) (n : Int) (hL : L.length ≤ 4097) (hs : ∀ p ∈ L,p.size ≤ 1048576) (d : Nat) : ∀ (k i : Nat) (out : List Int),i ≤ L.length → out.length ≤ i → L.length - i = d → d + 30 < k →
  (spec_l02Numbers.l0 k n L out (i : Int) = some ([],false) ∧ impl_numbers.l0 k out L (L.length : Int) (i : Int) = some ([],false)) ∨
  ∃ vs : List Int,vs.length = L.length - i ∧ spec_l02Numbers.l0 k n L out (i : Int) = some (out ++ vs,(((out ++ vs).length : Int) == n)) ∧ impl_numbers.l0 k out L (L.length : Int) (i : Int) = some (out ++ vs,true) := by
 induction d with
 | zero =>
  intro k i out hi ho hd hk
  obtain ⟨k,rfl⟩ : ∃ m,k = m + 1 := ⟨k - 1,by omega⟩
  obtain rfl : i = L.length := by omega
  refine .inr ⟨[],by simp,?_,?_⟩
  ·simp only [spec_l02Numbers.l0]
   rw [if_neg (by omega),List.append_nil]
  ·simp only [impl_numbers.l0]
   rw [if_neg (by omega),List.append_nil]
 | succ d ih =>
  intro k i out hi ho hd hk
  obtain ⟨k,rfl⟩ : ∃ m,k = m + 1 := ⟨k - 1,by omega⟩
  have hlt : i < L.length := by omega
  have hw : wrap64 ((i : Int) + 1) = ((i + 1 : Nat) : Int) := by unfold wrap64; omega
  obtain ⟨v,v2,b,h1,h2,h3⟩ := num_same L[i] (hs _ (List.getElem_mem hlt)) k (by omega)
  simp only [spec_l02Numbers.l0,impl_numbers.l0]
  rw [if_pos (by omega),if_pos (by omega),if_pos (by omega),if_pos (by omega),if_pos (by omega),rdOf_at L i hlt,h1,h2]
  simp only [Option.bind_some]
  cases b with
  | false => exact .inl ⟨by simp,by simp⟩
  | true =>
   obtain rfl := h3 rfl
   simp only [if_true]
   rw [if_pos (by omega),if_pos (by omega),hw]
   rcases ih k (i + 1) (out ++ [v]) (by omega) (by rw [List.length_append,List.length_singleton]; omega) (by omega) (by omega) with h | ⟨vs,h4,h5,h6⟩
   ·exact .inl h
   ·refine .inr ⟨v :: vs,by simp; omega,?_,?_⟩
    ·rw [h5]; simp
    ·rw [h6]; simp
theorem spec_numbers_total (L : List ByteArray) (n : Int) (hs : ∀ p ∈ L,p.size ≤ 1048576) (hL : L.length ≤ 1048577) (d : Nat) : ∀ (k i : Nat) (out : List Int),i ≤ L.length → out.length ≤ i → L.length - i = d → d + 30 < k →
  ∃ r b,spec_l02Numbers.l0 k n L out (i : Int) = some (r,b) ∧ (b = true → ((out.length + (L.length - i) : Nat) : Int) = n) := by
 induction d with
 | zero =>
  intro k i out hi ho hd hk
  obtain ⟨k,rfl⟩ : ∃ m,k = m + 1 := ⟨k - 1,by omega⟩
  obtain rfl : i = L.length := by omega
  simp only [spec_l02Numbers.l0]
  rw [if_neg (by omega)]
  exact ⟨_,_,rfl,fun h => by have := beq_iff_eq.1 h; omega⟩
 | succ d ih =>
  intro k i out hi ho hd hk
  obtain ⟨k,rfl⟩ : ∃ m,k = m + 1 := ⟨k - 1,by omega⟩
  have hlt : i < L.length := by omega
  have hw : wrap64 ((i : Int) + 1) = ((i + 1 : Nat) : Int) := by unfold wrap64; omega
  obtain ⟨v,b,h1,_,_⟩ := num_spec L[i] k (by omega)
  simp only [spec_l02Numbers.l0]
  rw [if_pos (by omega),if_pos (by omega),rdOf_at L i hlt,h1]
  simp only [Option.bind_some]
  cases b with
  | false => exact ⟨[],false,by simp,by simp⟩
  | true =>
   simp only [if_true]
   rw [if_pos (by omega),hw]
   obtain ⟨r,b,h2,h3⟩ := ih k (i + 1) (out ++ [v]) (by omega) (by rw [List.length_append,List.length_singleton]; omega) (by omega) (by omega)
   exact ⟨r,b,h2,fun h => by have := h3 h; rw [List.length_append,List.length_singleton] at this; omega⟩
theorem numbers_same (s : ByteArray) (c : UInt8) (n : Nat) (hn : 1 ≤ n) (hn2 : n ≤ 4096) (hs : s.size ≤ 1048576) (k : Nat) (hk : s.size + 40 < k) :
  ∃ r r' b,spec_l02Numbers.f k s ((c.toNat : Nat) : Int) (n : Int) = some (r,b) ∧ impl_numbers.f k s ⟨#[c]⟩ (n : Int) = some (r',b) ∧ (b = true → r = r' ∧ r.length = n) := by
 unfold spec_l02Numbers.f impl_numbers.f
 have hsz : s.size = s.data.toList.length := by rw [Array.length_toList]; rfl
 have hpl := pieces_len c s.data.toList
 obtain ⟨L,e1,e2,e3,e4,_⟩ := splitN_eq s c n hn hs hn2
 have hw : wrap64 ((n : Int) + 1) = ((n + 1 : Nat) : Int) := by unfold wrap64; omega
 rw [cut_eq s c hs k (by omega),hw,e1]
 simp only [Option.bind_some]
 have hbytes : ∀ p ∈ mkP (pieces c s.data.toList),p.size ≤ 1048576 := fun p hp => by
  obtain ⟨q,hq,rfl⟩ := List.mem_map.1 hp
  have := pieces_bytes c _ q hq
  rw [size_mk]
  omega
 by_cases hlen : (pieces c s.data.toList).length = n
 ·have hL := e3 (e2.2 hlen)
  subst hL
  have hl2 : (mkP (pieces c s.data.toList)).length = n := by unfold mkP; rw [List.length_map]; exact hlen
  rw [if_pos (by rw [hl2])]
  rcases numbers_loops (mkP (pieces c s.data.toList)) n (by omega) hbytes n k 0 [] (by omega) (by simp) (by omega) (by omega) with ⟨h1,h2⟩ | ⟨vs,h1,h2,h3⟩
  ·exact ⟨[],[],false,h1,h2,by simp⟩
  ·refine ⟨vs,vs,true,?_,h3,fun _ => ⟨rfl,by omega⟩⟩
   rw [show ((0 : Nat) : Int) = 0 from rfl] at h2
   rw [h2,List.nil_append]
   have : ((vs.length : Int) == (n : Int)) = true := by rw [beq_iff_eq]; omega
   rw [this]
 ·rw [if_neg (by intro h; exact hlen (e2.1 (by omega)))]
  have hl2 : (mkP (pieces c s.data.toList)).length = (pieces c s.data.toList).length := by unfold mkP; rw [List.length_map]
  obtain ⟨r,b,h⟩ := spec_numbers_total (mkP (pieces c s.data.toList)) n hbytes (by omega) (mkP (pieces c s.data.toList)).length k 0 [] (by omega) (by simp) (by omega) (by omega)
  rw [show ((0 : Nat) : Int) = 0 from rfl] at h
  refine ⟨r,[],false,?_,rfl,by simp⟩
  rw [h.1]
  have : b = false := by
   cases b with
   | false => rfl
   | true =>
    have := h.2 rfl
    simp only [List.length_nil,Nat.sub_zero] at this
    omega
  rw [this]
theorem itoa_bytes (v : Int) (x : UInt8) (h : x ∈ Lib.itoa v) : isDig x = true ∨ x = 45 := by
 unfold Lib.itoa at h
 have hd : ∀ u,x ∈ Lib.decDigits u → isDig x = true := fun u hu => List.all_eq_true.1 (dec_dig u u (Nat.le_refl u)).1 x hu
 split at h
 ·rcases List.mem_cons.1 h with rfl | h
  ·exact .inr rfl
  ·exact .inl (hd _ h)
 ·exact .inl (hd _ h)
theorem pieces_mem (c : UInt8) : ∀ l,∀ x ∈ l,x = c ∨ ∃ p ∈ pieces c l,x ∈ p
 | [],x,h => by cases h
 | b :: l,x,h => by
  unfold pieces
  by_cases hb : b = c
  ·rw [if_pos hb]
   rcases List.mem_cons.1 h with rfl | h
   ·exact .inl hb
   ·rcases pieces_mem c l x h with h | ⟨p,hp,hx⟩
    ·exact .inl h
    ·exact .inr ⟨p,List.mem_cons_of_mem _ hp,hx⟩
  ·rw [if_neg hb]
   cases hp : pieces c l with
   | nil => exact absurd hp (pieces_ne c l)
   | cons q qs =>
    rcases List.mem_cons.1 h with rfl | h
    ·exact .inr ⟨_,List.mem_cons_self,List.mem_cons_self⟩
    ·rcases pieces_mem c l x h with h | ⟨p,hp2,hx⟩
     ·exact .inl h
     ·rw [hp] at hp2
      rcases List.mem_cons.1 hp2 with rfl | hp2
      ·exact .inr ⟨_,List.mem_cons_self,List.mem_cons_of_mem _ hx⟩
      ·exact .inr ⟨p,List.mem_cons_of_mem _ hp2,hx⟩
theorem spec_numbers_all (L : List ByteArray) (n : Int) (hL : L.length ≤ 1048577) (d : Nat) : ∀ (k i : Nat) (out r : List Int),i ≤ L.length → L.length - i = d → d + 30 < k →
  spec_l02Numbers.l0 k n L out (i : Int) = some (r,true) → ∀ p ∈ L.drop i,∃ v,isNum p v := by
 induction d with
 | zero =>
  intro k i out r hi hd hk _ p hp
  rw [List.drop_of_length_le (by omega)] at hp
  cases hp
 | succ d ih =>
  intro k i out r hi hd hk h p hp
  obtain ⟨k,rfl⟩ : ∃ m,k = m + 1 := ⟨k - 1,by omega⟩
  have hlt : i < L.length := by omega
  have hw : wrap64 ((i : Int) + 1) = ((i + 1 : Nat) : Int) := by unfold wrap64; omega
  obtain ⟨v,b,h1,h2,_⟩ := num_spec L[i] k (by omega)
  simp only [spec_l02Numbers.l0] at h
  rw [if_pos (by omega),if_pos (by omega),rdOf_at L i hlt,h1] at h
  simp only [Option.bind_some] at h
  cases b with
  | false => simp at h
  | true =>
   simp only [if_true] at h
   split at h
   ·rw [hw] at h
    rw [List.drop_eq_getElem_cons hlt] at hp
    rcases List.mem_cons.1 hp with rfl | hp
    ·exact ⟨v,h2 rfl⟩
    ·exact ih k (i + 1) _ r (by omega) (by omega) (by omega) h p hp
   ·cases h
theorem spec_numbers_bytes (s : ByteArray) (c : UInt8) (n : Int) (hs : s.size ≤ 1048576) (k : Nat) (hk : s.size + 40 < k) (r : List Int) (h : spec_l02Numbers.f k s ((c.toNat : Nat) : Int) n = some (r,true)) :
  ∀ x ∈ s.data.toList,x = c ∨ isDig x = true ∨ x = 45 := by
 unfold spec_l02Numbers.f at h
 have hsz : s.size = s.data.toList.length := by rw [Array.length_toList]; rfl
 have hpl := pieces_len c s.data.toList
 have hl2 : (mkP (pieces c s.data.toList)).length = (pieces c s.data.toList).length := by unfold mkP; rw [List.length_map]
 rw [cut_eq s c hs k (by omega)] at h
 simp only [Option.bind_some] at h
 have ha := spec_numbers_all (mkP (pieces c s.data.toList)) n (by omega) _ k 0 [] r (by omega) rfl (by omega) h
 intro x hx
 rcases pieces_mem c _ x hx with h | ⟨p,hp,hx⟩
 ·exact .inl h
 ·obtain ⟨v,_,_,hv⟩ := ha ⟨p.toArray⟩ (by rw [List.drop_zero]; exact List.mem_map.2 ⟨p,hp,rfl⟩)
  have : p = Lib.itoa v := by
   have := congrArg (fun b : ByteArray => b.data.toList) hv
   simpa using this
  rw [this] at hx
  exact .inr (itoa_bytes v x hx)
theorem readagg_same (s : ByteArray) (hs : s.size ≤ 1048576) (k : Nat) (hk : s.size + 40 < k) :
  ∃ r r' : Int × Int × Int × Int × Int × Int,∃ b : Bool,spec_l02Read.f k s = some (r.1,r.2.1,r.2.2.1,r.2.2.2.1,r.2.2.2.2.1,r.2.2.2.2.2,b) ∧ impl_readAgg.f k s = some (r'.1,r'.2.1,r'.2.2.1,r'.2.2.2.1,r'.2.2.2.2.1,r'.2.2.2.2.2,b) ∧ (b = true → r = r') ∧ (b = true → aggB r.1 r.2.1 r.2.2.1 r.2.2.2.1 r.2.2.2.2.1 r.2.2.2.2.2 = true) := by
 unfold spec_l02Read.f impl_readAgg.f
 obtain ⟨r,r',b,h1,h2,h3⟩ := numbers_same s 44 6 (by omega) (by omega) hs k hk
 have e1 : (((44 : UInt8).toNat : Nat) : Int) = 44 := rfl
 have e2 : ((6 : Nat) : Int) = 6 := rfl
 rw [e1,e2] at h1
 rw [e2] at h2
 rw [h1,h2]
 simp only [Option.bind_some]
 cases b with
 | false => exact ⟨(0,0,0,0,0,0),(0,0,0,0,0,0),false,by simp,by simp,by simp,by simp⟩
 | true =>
  obtain ⟨rfl,hlen⟩ := h3 rfl
  have hl : (r.length : Int) = 6 := by omega
  simp only [if_true,hl]
  rw [if_pos (by decide),if_pos (by decide),if_pos (by decide),if_pos (by decide),if_pos (by decide),if_pos (by decide),spec_agg,impl_agg]
  simp only [Option.bind_some]
  cases hq : aggB (rd r 0) (rd r 1) (rd r 2) (rd r 3) (rd r 4) (rd r 5) with
  | false => exact ⟨(0,0,0,0,0,0),(rd r 0,rd r 1,rd r 2,rd r 3,rd r 4,rd r 5),false,by simp,by simp,by simp,by simp⟩
  | true => exact ⟨(rd r 0,rd r 1,rd r 2,rd r 3,rd r 4,rd r 5),(rd r 0,rd r 1,rd r 2,rd r 3,rd r 4,rd r 5),true,by simp,by simp,by simp,fun _ => hq⟩
theorem cutB_none (c : UInt8) (l : List UInt8) (h : c ∉ l) : Lib.cut l [c] = (l,[],false) := by
 unfold Lib.cut
 rcases index_one c l with ⟨h1,_⟩ | ⟨i,h1,h2,h3,h4⟩
 ·rw [h1,if_neg (by decide)]
 ·exact absurd (by rw [h4]; simp) h
theorem cutB_some (c : UInt8) (a b : List UInt8) (h : c ∉ a) : Lib.cut (a ++ c :: b) [c] = (a,b,true) := by
 unfold Lib.cut
 rcases index_one c (a ++ c :: b) with ⟨_,h2⟩ | ⟨i,h1,h2,h3,h4⟩
 ·exact absurd (by simp) h2
 ·have hi : i = a.length := by
   rcases Nat.lt_trichotomy i a.length with hlt | heq | hgt
   ·exfalso
    apply h
    have : (a ++ c :: b)[i]? = some c := by
     rw [h4,List.getElem?_append_right (by rw [List.length_take]; omega)]
     have : i - (List.take i (a ++ c :: b)).length = 0 := by rw [List.length_take]; omega
     rw [this]; rfl
    rw [List.getElem?_append_left hlt] at this
    exact List.mem_of_getElem? this
   ·exact heq
   ·exfalso
    apply h3
    rw [List.take_append]
    exact List.mem_append_right _ (by
     have : i - a.length = (i - a.length - 1) + 1 := by omega
     rw [this,List.take_succ_cons]
     exact List.mem_cons_self)
  subst hi
  rw [h1,if_pos (by omega),Int.toNat_natCast,List.take_left' rfl]
  simp [List.drop_append]
theorem readagg_bytes (s : ByteArray) (hs : s.size ≤ 1048576) (k : Nat) (hk : s.size + 40 < k) (a b c d e f : Int) (h : spec_l02Read.f k s = some (a,b,c,d,e,f,true)) : ∀ x ∈ s.data.toList,x = 44 ∨ isDig x = true ∨ x = 45 := by
 unfold spec_l02Read.f at h
 obtain ⟨r,r',q,h1,_,h3⟩ := numbers_same s 44 6 (by omega) (by omega) hs k hk
 have e1 : (((44 : UInt8).toNat : Nat) : Int) = 44 := rfl
 have e2 : ((6 : Nat) : Int) = 6 := rfl
 have hb := spec_numbers_bytes s 44 6 hs k hk
 rw [e1] at hb
 rw [e1,e2] at h1
 rw [h1] at h
 cases q with
 | false => simp at h
 | true => exact hb r h1
theorem bucket_elem (p : ByteArray) (hp : p.size ≤ 1048576) (k : Nat) (hk : p.size + 60 < k) : ∃ q : Option S88,
  (∀ F : S88 → Option (List S88 × Bool),((spec_l00Cut.f k p 58).bind fun t175 => (if (t175.length : Int) = 2 then (if 0 < (t175.length : Int) then ((spec_l02Number.f k (rdOf ByteArray.empty t175 0)).bind fun bt182 => (if 1 < (t175.length : Int) then ((spec_l02Read.f k (rdOf ByteArray.empty t175 1)).bind fun bt185 => (if bt182.2 = true then (if bt185.2.2.2.2.2.2 = true then F (⟨bt182.1,⟨bt185.1,bt185.2.1,bt185.2.2.1,bt185.2.2.2.1,bt185.2.2.2.2.1,bt185.2.2.2.2.2.1⟩⟩ : S88) else (some ([],false))) else (some ([],false)))) else (none))) else (none)) else (some ([],false)))) = match q with | some b => F b | none => some ([],false)) ∧
  (∀ F : S88 → Option (List S88 × Bool),((strings_Cut.f p (⟨#[58]⟩ : ByteArray)).bind fun bt262 => ((impl_number.f bt262.1).bind fun bt265 => ((impl_readAgg.f k bt262.2.1).bind fun bt267 => (if bt262.2.2 = true then (if bt265.2 = true then (if bt267.2.2.2.2.2.2 = true then F (⟨bt265.1,⟨bt267.1,bt267.2.1,bt267.2.2.1,bt267.2.2.2.1,bt267.2.2.2.2.1,bt267.2.2.2.2.2.1⟩⟩ : S88) else (some ([],false))) else (some ([],false))) else (some ([],false)))))) = match q with | some b => F b | none => some ([],false)) := by
 have hsz : p.size = p.data.toList.length := by rw [Array.length_toList]; rfl
 have hc := cut_eq p 58 hp k (by omega)
 have hc2 : (((58 : UInt8).toNat : Nat) : Int) = 58 := rfl
 rw [hc2] at hc
 have hcut : strings_Cut.f p (⟨#[58]⟩ : ByteArray) = some (⟨(Lib.cut p.data.toList [58]).1.toArray⟩,⟨(Lib.cut p.data.toList [58]).2.1.toArray⟩,(Lib.cut p.data.toList [58]).2.2) := by
  unfold strings_Cut.f
  rw [if_pos (by omega)]
 rw [hc,hcut]
 simp only [Option.bind_some]
 rcases index_one 58 p.data.toList with ⟨_,h2⟩ | ⟨i,_,hi,h3,h4⟩
 · -- no such sign
  rw [pieces_none _ _ h2,cutB_none _ _ h2]
  refine ⟨none,fun F => by simp [mkP],fun F => ?_⟩
  obtain ⟨n,b,g1,_,_⟩ := num_impl ⟨p.data.toList.toArray⟩ (by rw [mk_data]; omega)
  obtain ⟨r,r',b',_,g2,_,_⟩ := readagg_same ⟨([] : List UInt8).toArray⟩ (by rw [size_mk]; simp) k (by rw [size_mk]; simp <;> omega)
  rw [g1,g2]
  simp
 ·have hpc : pieces 58 p.data.toList = p.data.toList.take i :: pieces 58 (p.data.toList.drop (i + 1)) := by
   conv => lhs; rw [h4]
   exact pieces_app 58 _ _ h3
  have hct : Lib.cut p.data.toList [58] = (p.data.toList.take i,p.data.toList.drop (i + 1),true) := by
   conv => lhs; rw [h4]
   exact cutB_some 58 _ _ h3
  rw [hpc,hct]
  simp only
  generalize p.data.toList.drop (i + 1) = y at *
  generalize p.data.toList.take i = x at *
  have hlen : x.length + y.length < p.size := by rw [hsz,h4]; simp <;> omega
  obtain ⟨n,m,b,n1,n2,n3⟩ := num_same ⟨x.toArray⟩ (by rw [size_mk]; omega) k (by omega)
  obtain ⟨r,r',b',a1,a2,a3,_⟩ := readagg_same ⟨y.toArray⟩ (by rw [size_mk]; omega) k (by rw [size_mk]; omega)
  rw [n2,a2]
  simp only [Option.bind_some,if_true]
  rcases index_one 58 y with ⟨_,g2⟩ | ⟨j,_,hj,g3,g4⟩
  · -- just one
   rw [pieces_none _ _ g2]
   have e0 : rdOf ByteArray.empty (mkP [x,y]) 0 = ⟨x.toArray⟩ := rfl
   have e1 : rdOf ByteArray.empty (mkP [x,y]) 1 = ⟨y.toArray⟩ := rfl
   have el : ((mkP [x,y]).length : Int) = 2 := rfl
   rw [el,e0,e1,n1,a1]
   simp only [Option.bind_some]
   cases b with
   | false => exact ⟨none,fun F => by simp,fun F => by simp⟩
   | true =>
    obtain rfl := n3 rfl
    cases b' with
    | false => exact ⟨none,fun F => by simp,fun F => by simp⟩
    | true =>
     obtain rfl := a3 rfl
     exact ⟨some ⟨n,⟨r.1,r.2.1,r.2.2.1,r.2.2.2.1,r.2.2.2.2.1,r.2.2.2.2.2⟩⟩,fun F => by simp,fun F => by simp⟩
  · -- more
   have hl3 : ¬ ((mkP (x :: pieces 58 y)).length : Int) = 2 := by
    rw [g4,pieces_app 58 _ _ g3]
    have := pieces_ne 58 (y.drop (j + 1))
    have : 0 < (pieces 58 (y.drop (j + 1))).length := List.length_pos_iff.2 this
    unfold mkP
    rw [List.length_map]
    simp only [List.length_cons]
    omega
   refine ⟨none,fun F => by rw [if_neg hl3],fun F => ?_⟩
   have hb' : b' = false := by
    cases b' with
    | false => rfl
    | true =>
     have := readagg_bytes ⟨y.toArray⟩ (by rw [size_mk]; omega) k (by rw [size_mk]; omega) _ _ _ _ _ _ a1 58 (by show (58 : UInt8) ∈ y; rw [g4]; simp)
     revert this; decide
   subst hb'
   cases b <;> simp
theorem buckets_loops (L : List ByteArray) (B : Nat) (hB : B ≤ 1048576) (hL : L.length ≤ 9) (hs : ∀ p ∈ L,p.size ≤ B) (d : Nat) : ∀ (k i : Nat) (out : List S88),i ≤ L.length → out.length ≤ i → L.length - i = d → B + d + 90 < k →
  ∃ r r' b,spec_l03ToBuckets.l0 k out L (i : Int) = some (r,b) ∧ impl_readBuckets.l0 k out L (L.length : Int) (i : Int) = some (r',b) ∧ (b = true → r = r' ∧ r.length ≤ 8) := by
 induction d with
 | zero =>
  intro k i out hi ho hd hk
  obtain ⟨k,rfl⟩ : ∃ m,k = m + 1 := ⟨k - 1,by omega⟩
  obtain rfl : i = L.length := by omega
  obtain ⟨h1,h2⟩ := bok_eq out (by omega) k (by omega)
  simp only [spec_l03ToBuckets.l0,impl_readBuckets.l0]
  rw [if_neg (by omega),h1,h2]
  simp only [Option.bind_some]
  cases hq : bokB out with
  | false => exact ⟨[],out,false,by simp,by rw [if_neg (by omega)],by simp⟩
  | true =>
   refine ⟨out,out,true,by simp,by rw [if_neg (by omega)],fun _ => ⟨rfl,?_⟩⟩
   unfold bokB at hq
   rw [Bool.and_eq_true,decide_eq_true_eq] at hq
   omega
 | succ d ih =>
  intro k i out hi ho hd hk
  obtain ⟨k,rfl⟩ : ∃ m,k = m + 1 := ⟨k - 1,by omega⟩
  have hlt : i < L.length := by omega
  have hw : wrap64 ((i : Int) + 1) = ((i + 1 : Nat) : Int) := by unfold wrap64; omega
  have hp := hs L[i] (List.getElem_mem hlt)
  obtain ⟨q,h1,h2⟩ := bucket_elem L[i] (by omega) k (by omega)
  simp only [spec_l03ToBuckets.l0,impl_readBuckets.l0]
  rw [if_pos (by omega),if_pos (by omega),if_pos (by omega),if_pos (by omega),if_pos (by omega),rdOf_at L i hlt,hw]
  rw [h1 (fun b => if out.length < 2513169434916 then spec_l03ToBuckets.l0 k (out ++ [b]) L ((i + 1 : Nat) : Int) else none),h2 (fun b => if out.length < 2513169434916 then impl_readBuckets.l0 k (out ++ [b]) L (L.length : Int) ((i + 1 : Nat) : Int) else none)]
  cases q with
  | none => exact ⟨[],[],false,rfl,rfl,by simp⟩
  | some b =>
   simp only
   rw [if_pos (by omega),if_pos (by omega)]
   exact ih k (i + 1) _ (by omega) (by rw [List.length_append,List.length_singleton]; omega) (by omega) (by omega)
theorem spec_buckets_total (L : List ByteArray) (B : Nat) (hB : B ≤ 1048576) (hL : L.length ≤ 1048576) (hs : ∀ p ∈ L,p.size ≤ B) (d : Nat) : ∀ (k i : Nat) (out : List S88),i ≤ L.length → out.length ≤ i → L.length - i = d → B + 2 * L.length + d + 90 < k →
  ∃ r b,spec_l03ToBuckets.l0 k out L (i : Int) = some (r,b) ∧ (b = true → out.length + (L.length - i) ≤ 8) := by
 induction d with
 | zero =>
  intro k i out hi ho hd hk
  obtain ⟨k,rfl⟩ : ∃ m,k = m + 1 := ⟨k - 1,by omega⟩
  obtain rfl : i = L.length := by omega
  obtain ⟨h1,_⟩ := bok_eq out (by omega) k (by omega)
  simp only [spec_l03ToBuckets.l0]
  rw [if_neg (by omega),h1]
  simp only [Option.bind_some]
  cases hq : bokB out with
  | false => exact ⟨[],false,by simp,by simp⟩
  | true =>
   refine ⟨out,true,by simp,fun _ => ?_⟩
   unfold bokB at hq
   rw [Bool.and_eq_true,decide_eq_true_eq] at hq
   omega
 | succ d ih =>
  intro k i out hi ho hd hk
  obtain ⟨k,rfl⟩ : ∃ m,k = m + 1 := ⟨k - 1,by omega⟩
  have hlt : i < L.length := by omega
  have hw : wrap64 ((i : Int) + 1) = ((i + 1 : Nat) : Int) := by unfold wrap64; omega
  have hp := hs L[i] (List.getElem_mem hlt)
  obtain ⟨q,h1,_⟩ := bucket_elem L[i] (by omega) k (by omega)
  simp only [spec_l03ToBuckets.l0]
  rw [if_pos (by omega),if_pos (by omega),rdOf_at L i hlt,hw]
  rw [h1 (fun b => if out.length < 2513169434916 then spec_l03ToBuckets.l0 k (out ++ [b]) L ((i + 1 : Nat) : Int) else none)]
  cases q with
  | none => exact ⟨[],false,rfl,by simp⟩
  | some b =>
   simp only
   rw [if_pos (by omega)]
   obtain ⟨r,b',h4,h5⟩ := ih k (i + 1) (out ++ [b]) (by omega) (by rw [List.length_append,List.length_singleton]; omega) (by omega) (by omega)
   exact ⟨r,b',h4,fun h => by have := h5 h; rw [List.length_append,List.length_singleton] at this; omega⟩
theorem impl_buckets_total (L : List ByteArray) (B : Nat) (hB : B ≤ 1048576) (hL : L.length ≤ 9) (hs : ∀ p ∈ L,p.size ≤ B) (d : Nat) : ∀ (k i : Nat) (out : List S88),i ≤ L.length → out.length ≤ i → L.length - i = d → B + d + 90 < k →
  ∃ r b,impl_readBuckets.l0 k out L (L.length : Int) (i : Int) = some (r,b) ∧ (b = true → out.length + (L.length - i) ≤ 8) := by
 induction d with
 | zero =>
  intro k i out hi ho hd hk
  obtain ⟨k,rfl⟩ : ∃ m,k = m + 1 := ⟨k - 1,by omega⟩
  obtain rfl : i = L.length := by omega
  obtain ⟨_,h2⟩ := bok_eq out (by omega) k (by omega)
  simp only [impl_readBuckets.l0]
  rw [if_neg (by omega),h2]
  simp only [Option.bind_some]
  refine ⟨out,bokB out,rfl,fun hq => ?_⟩
  unfold bokB at hq
  rw [Bool.and_eq_true,decide_eq_true_eq] at hq
  omega
 | succ d ih =>
  intro k i out hi ho hd hk
  obtain ⟨k,rfl⟩ : ∃ m,k = m + 1 := ⟨k - 1,by omega⟩
  have hlt : i < L.length := by omega
  have hw : wrap64 ((i : Int) + 1) = ((i + 1 : Nat) : Int) := by unfold wrap64; omega
  have hp := hs L[i] (List.getElem_mem hlt)
  obtain ⟨q,_,h2⟩ := bucket_elem L[i] (by omega) k (by omega)
  simp only [impl_readBuckets.l0]
  rw [if_pos (by omega),if_pos (by omega),if_pos (by omega),rdOf_at L i hlt,hw]
  rw [h2 (fun b => if out.length < 2513169434916 then impl_readBuckets.l0 k (out ++ [b]) L (L.length : Int) ((i + 1 : Nat) : Int) else none)]
  cases q with
  | none => exact ⟨[],false,rfl,by simp⟩
  | some b =>
   simp only
   rw [if_pos (by omega)]
   obtain ⟨r,b',h4,h5⟩ := ih k (i + 1) (out ++ [b]) (by omega) (by rw [List.length_append,List.length_singleton]; omega) (by omega) (by omega)
   exact ⟨r,b',h4,fun h => by have := h5 h; rw [List.length_append,List.length_singleton] at this; omega⟩
theorem readbuckets_same (s : ByteArray) (hs : s.size ≤ 262144) (k : Nat) (hk : 6 * s.size + 200 < k) :
  ∃ r r' b,spec_l03ToBuckets.f k s = some (r,b) ∧ impl_readBuckets.f k s = some (r',b) ∧ (b = true → r = r' ∧ r.length ≤ 8) := by
 unfold spec_l03ToBuckets.f impl_readBuckets.f impl_parts.f
 have hsz : s.size = s.data.toList.length := by rw [Array.length_toList]; rfl
 have hpl := pieces_len 32 s.data.toList
 simp only [Option.bind_some]
 by_cases h0 : s.toList = []
 ·rw [if_pos h0,if_pos h0]
  simp only [Option.bind_some]
  obtain ⟨k',rfl⟩ : ∃ m,k = m + 1 := ⟨k - 1,by omega⟩
  obtain ⟨_,h5⟩ := bok_eq [] (by simp) k' (by simp; omega)
  have h6 : impl_readBuckets.l0 (k' + 1) [] [] (([] : List ByteArray).length : Int) 0 = some ([],true) := by
   simp only [impl_readBuckets.l0]
   rw [if_neg (by simp),h5]
   simp [bokB,riseB]
  exact ⟨[],[],true,rfl,h6,fun _ => ⟨rfl,by simp⟩⟩
 ·rw [if_neg h0,if_neg h0]
  obtain ⟨L,e1,e2,e3,e4,e5,e6,e7⟩ := splitN_eq s 32 8 (by omega) (by omega) (by omega)
  have hw : ((8 + 1 : Nat) : Int) = 9 := rfl
  rw [hw] at e1
  have hc := cut_eq s 32 (by omega) k (by omega)
  have hc2 : (((32 : UInt8).toNat : Nat) : Int) = 32 := rfl
  rw [hc2] at hc
  rw [hc,e1]
  simp only [Option.bind_some]
  have hbytes : ∀ p ∈ mkP (pieces 32 s.data.toList),p.size ≤ s.size := fun p hp => by
   obtain ⟨q,hq,rfl⟩ := List.mem_map.1 hp
   have := pieces_bytes 32 _ q hq
   rw [size_mk]
   omega
  have hl2 : (mkP (pieces 32 s.data.toList)).length = (pieces 32 s.data.toList).length := by unfold mkP; rw [List.length_map]
  by_cases h9 : (pieces 32 s.data.toList).length ≤ 9
  ·have hL := e5 h9
   subst hL
   exact buckets_loops _ s.size (by omega) (by omega) hbytes _ k 0 [] (by omega) (by simp) rfl (by omega)
  ·have hL := e6 (by omega)
   obtain ⟨r,b,h1,h2⟩ := spec_buckets_total (mkP (pieces 32 s.data.toList)) s.size (by omega) (by omega) hbytes _ k 0 [] (by omega) (by simp) rfl (by omega)
   obtain ⟨r',b',h3,h4⟩ := impl_buckets_total L s.size (by omega) (by omega) e7 _ k 0 [] (by omega) (by simp) rfl (by omega)
   rw [show ((0 : Nat) : Int) = 0 from rfl] at h1 h3
   rw [h1,h3]
   have hb : b = false := by
    cases b with
    | false => rfl
    | true => have := h2 rfl; simp at this; omega
   have hb' : b' = false := by
    cases b' with
    | false => rfl
    | true => have := h4 rfl; simp at this; omega
   subst hb; subst hb'
   exact ⟨r,r',false,rfl,rfl,by simp⟩
theorem FnExactReadBuckets : laws_FnExactReadBuckets.Pure := by
 intro s hs0
 obtain ⟨K,hK⟩ : ∃ K,K = 6 * s.size + 400 := ⟨_,rfl⟩
 refine ⟨K + 2,?_⟩
 unfold laws_FnExactReadBuckets.f
 by_cases hs : (s.size : Int) > 1048576
 ·rw [if_pos hs]
 ·rw [if_neg hs]
  have key : ∀ k,K ≤ k → ∃ (r : List S88) (c : Int),spec_ReadBuckets.f k s = some (r,c) ∧ impl_ReadBuckets.f k s = some (r,c) ∧ r.length ≤ 8 := by
   intro k hk
   unfold spec_ReadBuckets.f impl_ReadBuckets.f impl_isLong.f
   by_cases hl : (s.size : Int) > 65536
   ·have hq : ([s].any fun s => !(shortB s)) = true := by simp [shortB]; omega
    rw [if_pos hl,hq]
    exact ⟨[],2,rfl,rfl,by simp⟩
   ·have hq : ([s].any fun s => !(shortB s)) = false := by simp [shortB]; omega
    rw [if_neg hl,hq]
    simp only [Option.bind_some,Bool.false_eq_true,if_false]
    obtain ⟨r,r',b,h1,h2,h3⟩ := readbuckets_same s (by omega) k (by omega)
    rw [h1,h2]
    simp only [Option.bind_some]
    cases b with
    | false => exact ⟨[],3,rfl,rfl,by simp⟩
    | true =>
     obtain ⟨rfl,h8⟩ := h3 rfl
     exact ⟨r,0,rfl,rfl,h8⟩
  obtain ⟨r,c,h1,h2,h3⟩ := key (K + 2) (by omega)
  have h4 : impl_ReadBuckets.f (K + 1) s = some (r,c) := by
   obtain ⟨r',c',_,g2,_⟩ := key (K + 1) (by omega)
   have := impl_ReadBuckets.mono s (K + 1) _ g2
   rw [h2] at this
   rw [g2,this]
  rw [h1,h2]
  simp only [Option.bind_some]
  rw [eqBucketS_same r (by omega) _ (by omega)]
  simp only [Option.bind_some,if_true]
  simp only [laws_FnExactReadBuckets.j0,bne_self_eq_false,Bool.false_eq_true,if_false]
  rw [markBucketS_eq r 1 _ (by omega) (by omega) (by omega) (by omega)]
  simp only [Option.bind_some]
  rw [heldBucketS_eq r.length 1 _ (by omega) (by omega) (by omega) (by omega)]
  simp only [Option.bind_some]
  rw [if_neg (by omega),if_pos trivial,h4]
  simp only [Option.bind_some]
  rw [eqBucketS_same r (by omega) _ (by omega)]
  simp only [Option.bind_some,if_true,laws_FnExactReadBuckets.j1,bne_self_eq_false,Bool.false_eq_true,if_false]
  rw [heldBucketS_eq r.length 1 _ (by omega) (by omega) (by omega) (by omega)]
  simp only [Option.bind_some]
  rw [if_neg (by omega)]
  first | rw [if_pos rfl] | rw [if_pos trivial]

end Go.Proofs.YtbdhpmamlibmhaaDoor.Pure
