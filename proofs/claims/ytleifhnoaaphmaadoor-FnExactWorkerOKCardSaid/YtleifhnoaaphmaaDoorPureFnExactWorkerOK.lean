/- The pure law of FnExactWorkerOK: what the printed functions compute answers true for every input of the kinds and sizes that the statement gives. -/
import Derived.Test.YtleifhnoaaphmaaDoorKinFnExactWorkerOK
import Derived.Lib.AtoiAllCases
import Derived.Lib.ItoaLen
import Derived.Lib.SplitLaws
import Derived.Lib.AtoiAllCases
import Derived.Lib.ItoaLen
import Derived.Lib.SplitLaws
import Derived.Lib.AtoiAllCases
import Derived.Lib.ItoaLen
import Derived.Lib.SplitLaws
import Derived.Lib.AtoiAllCases
import Derived.Lib.ItoaLen
import Derived.Lib.SplitLaws
namespace Go.Proofs.YtleifhnoaaphmaaDoor.Pure
open Go.RowKit Go.Proofs.YtleifhnoaaphmaaDoorW.PrintWords Go.Proofs.YtleifhnoaaphmaaDoorW.PrintLast Go.Proofs.YtleifhnoaaphmaaDoor.XFnExactWorkerOK
set_option linter.unusedSimpArgs false
set_option linter.unusedVariables false

-- BODY
/-- a right aggregate, in plain words -/
def aggB (c s mn mx f l : Int) : Bool := (c == 0 && s == 0 && mn == 0 && mx == 0 && f == 0 && l == 0) ||
  (decide (1 ≤ c) && decide (c ≤ 100000) && decide (-1000000 ≤ mn) && decide (mn ≤ 1000000) && decide (-1000000 ≤ mx) && decide (mx ≤ 1000000) && decide (mn ≤ f) && decide (f ≤ mx) && decide (mn ≤ l) && decide (l ≤ mx) && decide (c * mn ≤ s) && decide (s ≤ c * mx))
theorem within_eq (a b c : Int) : impl_within.f a b c = some (decide (b ≤ a) && decide (a ≤ c)) := by
  unfold impl_within.f; by_cases h : b ≤ a <;> simp [h]
theorem in_eq (a b c : Int) : spec_l01In.f a b c = some (decide (b ≤ a) && decide (a ≤ c)) := by
  unfold spec_l01In.f; by_cases h : b ≤ a <;> simp [h]
theorem mul_small {c m : Int} (h1 : 1 ≤ c) (h2 : c ≤ 100000) (h3 : -1000000 ≤ m) (h4 : m ≤ 1000000) : wrap64 (c * m) = c * m := by
  have a : c * m ≤ 100000 * 1000000 := by
    rcases Int.lt_or_le m 0 with h | h
    · have : c * m ≤ 0 := Int.mul_nonpos_of_nonneg_of_nonpos (by omega) (by omega)
      omega
    · exact Int.mul_le_mul h2 h4 h (by omega)
  have b : -(100000 * 1000000) ≤ c * m := by
    have h5 : c * (-m) ≤ 100000 * 1000000 := by
      rcases Int.lt_or_le (-m) 0 with h | h
      · have : c * (-m) ≤ 0 := Int.mul_nonpos_of_nonneg_of_nonpos (by omega) (by omega)
        omega
      · exact Int.mul_le_mul h2 (by omega) h (by omega)
    rw [Int.mul_neg] at h5
    omega
  unfold wrap64; omega
theorem spec_agg (c s mn mx f l : Int) : spec_AggOK.f c s mn mx f l = some (aggB c s mn mx f l) := by
  unfold spec_AggOK.f aggB spec_l02Value.f
  simp only [in_eq, Option.bind_some]
  by_cases hc : c = 0
  · subst hc; simp [Bool.and_assoc]
  · have hc' : (c == 0) = false := by simp [hc]
    rw [if_neg hc, hc']
    by_cases h1 : 1 ≤ c <;> by_cases h2 : c ≤ 100000 <;> simp only [h1, h2, decide_true, decide_false, Bool.and_true, Bool.true_and, Bool.and_false, Bool.false_and, Bool.false_or, if_true, if_false, Bool.false_eq_true]
    by_cases h3 : -1000000 ≤ mn <;> by_cases h4 : mn ≤ 1000000 <;> simp only [h3, h4, decide_true, decide_false, Bool.and_true, Bool.true_and, Bool.and_false, Bool.false_and, if_true, if_false, Bool.false_eq_true]
    by_cases h5 : -1000000 ≤ mx <;> by_cases h6 : mx ≤ 1000000 <;> simp only [h5, h6, decide_true, decide_false, Bool.and_true, Bool.true_and, Bool.and_false, Bool.false_and, if_true, if_false, Bool.false_eq_true]
    rw [mul_small h1 h2 h3 h4, mul_small h1 h2 h5 h6]
    by_cases h7 : mn ≤ f <;> by_cases h8 : f ≤ mx <;> by_cases h9 : mn ≤ l <;> by_cases h10 : l ≤ mx <;> simp [h7, h8, h9, h10]
theorem impl_agg (c s mn mx f l : Int) : impl_AggOK.f c s mn mx f l = some (aggB c s mn mx f l) := by
  rw [← spec_agg]
  unfold impl_AggOK.f spec_AggOK.f impl_isValue.f spec_l02Value.f
  simp only [in_eq, within_eq, Option.bind_some]
  by_cases hc : c = 0
  · subst hc
    by_cases h : s = 0 ∧ mn = 0 ∧ mx = 0 ∧ f = 0 ∧ l = 0
    · obtain ⟨rfl, rfl, rfl, rfl, rfl⟩ := h; simp
    · have e : ((0 : Int) == 0 && (s == 0 && (mn == 0 && (mx == 0 && (f == 0 && (l == 0)))))) = false := by
        rw [Bool.eq_false_iff]; intro h'; apply h; simpa using h'
      rw [e]; simp
  · have hc' : (c == 0) = false := by simp [hc]
    rw [if_neg hc, hc']
    simp
theorem agg_bounds {c s mn mx f l : Int} (h : aggB c s mn mx f l = true) : 0 ≤ c ∧ c ≤ 100000 ∧ -100000000000 ≤ s ∧ s ≤ 100000000000 ∧ -1000000 ≤ mn ∧ mn ≤ 1000000 ∧ -1000000 ≤ mx ∧ mx ≤ 1000000 ∧ -1000000 ≤ f ∧ f ≤ 1000000 ∧ -1000000 ≤ l ∧ l ≤ 1000000 := by
  unfold aggB at h
  simp only [Bool.or_eq_true, Bool.and_eq_true, beq_iff_eq, decide_eq_true_eq] at h
  rcases h with ⟨⟨⟨⟨⟨rfl, rfl⟩, rfl⟩, rfl⟩, rfl⟩, rfl⟩ | ⟨⟨⟨⟨⟨⟨⟨⟨⟨⟨⟨h1, h2⟩, h3⟩, h4⟩, h5⟩, h6⟩, h7⟩, h8⟩, h9⟩, h10⟩, h11⟩, h12⟩
  · decide
  · have a1 := mul_small h1 h2 h3 h4
    have a2 := mul_small h1 h2 h5 h6
    have b1 : -(100000 * 1000000) ≤ c * mn := by
      have h5' : c * (-mn) ≤ 100000 * 1000000 := by
        rcases Int.lt_or_le (-mn) 0 with h | h
        · have : c * (-mn) ≤ 0 := Int.mul_nonpos_of_nonneg_of_nonpos (by omega) (by omega)
          omega
        · exact Int.mul_le_mul h2 (by omega) h (by omega)
      rw [Int.mul_neg] at h5'
      omega
    have b2 : c * mx ≤ 100000 * 1000000 := by
      rcases Int.lt_or_le mx 0 with h | h
      · have : c * mx ≤ 0 := Int.mul_nonpos_of_nonneg_of_nonpos (by omega) (by omega)
        omega
      · exact Int.mul_le_mul h2 h6 h (by omega)
    omega
/-- list places, as the printed loops spell them -/
theorem cast_wrap {i n : Nat} (h : i < n) (hn : n ≤ 140737488351232) : wrap64 ((i : Int) + 1) = ((i + 1 : Nat) : Int) := by unfold wrap64; omega
theorem take_set_succ {α : Type} (l : List α) (i : Nat) (v : α) (h : i < l.length) : (l.set i v).take (i + 1) = l.take i ++ [v] := by
  rw [List.take_succ_eq_append_getElem (by simpa using h)]
  simp only [List.take_set, List.getElem_set_self]
  rw [List.set_eq_of_length_le (by simp; omega)]
theorem rd84_at (l : List S84) (i : Nat) (h : i < l.length) : rd_T84 l (i : Int) = l[i] := by
  unfold rd_T84; rw [Int.toNat_natCast, List.getD_eq_getElem?_getD, List.getElem?_eq_getElem h]; rfl
theorem rd120_at (l : List S120) (i : Nat) (h : i < l.length) : rd_T120 l (i : Int) = l[i] := by
  unfold rd_T120; rw [Int.toNat_natCast, List.getD_eq_getElem?_getD, List.getElem?_eq_getElem h]; rfl
def cvEntry (x : S120) : S84 := ⟨x.f0, x.f1, x.f2, x.f3⟩
theorem toEntryS_loop (l : List S120) (hl : l.length ≤ 1048576) (d : Nat) : ∀ (k i : Nat) (x : List S84), x.length = l.length → i ≤ l.length → l.length - i = d → d < k →
    laws_toEntryS.l0 k l x (i : Int) = some (x.take i ++ (l.drop i).map cvEntry) := by
  induction d with
  | zero =>
    intro k i x hx hi hd hk
    obtain ⟨k, rfl⟩ : ∃ m, k = m + 1 := ⟨k - 1, by omega⟩
    obtain rfl : i = l.length := by omega
    simp only [laws_toEntryS.l0]
    rw [if_neg (by omega), List.drop_length, List.map_nil, List.append_nil, ← hx, List.take_length]
  | succ d ih =>
    intro k i x hx hi hd hk
    obtain ⟨k, rfl⟩ : ∃ m, k = m + 1 := ⟨k - 1, by omega⟩
    have hlt : i < l.length := by omega
    simp only [laws_toEntryS.l0, laws_toEntry.f, Option.bind_some]
    rw [if_pos (by omega), if_pos (by omega), if_pos (by omega), rd120_at l i hlt, cast_wrap hlt (by omega), ih k (i + 1) _ (by simpa using hx) (by omega) (by omega) (by omega), Int.toNat_natCast, take_set_succ _ _ _ (by omega),
      List.drop_eq_getElem_cons hlt, List.map_cons, List.append_assoc]
    rfl
theorem toEntryS_eq (l : List S120) (hl : l.length ≤ 1048576) (k : Nat) (hk : l.length < k) : laws_toEntryS.f k l = some (l.map cvEntry) := by
  unfold laws_toEntryS.f
  rw [if_pos (by omega), if_pos (by omega)]
  have := toEntryS_loop l hl l.length k 0 (List.replicate ((l.length : Int)).toNat z84) (by simp) (by omega) (by omega) hk
  refine Eq.trans this ?_
  simp
theorem eqEntry_same (x0 : Int) (x1 : Int) (x2 : Int) (x3 : ByteArray) : laws_eqEntry.f x0 x1 x2 x3 x0 x1 x2 x3 = some true := by simp [laws_eqEntry.f]
theorem eqEntryS_loop (a : List S84) (hl : a.length ≤ 1048576) (d : Nat) : ∀ (k i : Nat), i ≤ a.length → a.length - i = d → d < k → laws_eqEntryS.l0 k a a (i : Int) = some true := by
  induction d with
  | zero =>
    intro k i hi hd hk
    obtain ⟨k, rfl⟩ : ∃ m, k = m + 1 := ⟨k - 1, by omega⟩
    simp only [laws_eqEntryS.l0]
    rw [if_neg (by omega)]
  | succ d ih =>
    intro k i hi hd hk
    obtain ⟨k, rfl⟩ : ∃ m, k = m + 1 := ⟨k - 1, by omega⟩
    have hlt : i < a.length := by omega
    simp only [laws_eqEntryS.l0]
    rw [if_pos (by omega), if_pos (by omega), if_pos (by omega), eqEntry_same, cast_wrap hlt (by omega), ih k (i + 1) (by omega) (by omega) (by omega)]
    simp
theorem eqEntryS_same (a : List S84) (hl : a.length ≤ 1048576) (k : Nat) (hk : a.length < k) : laws_eqEntryS.f k a a = some true := by
  unfold laws_eqEntryS.f
  rw [if_pos rfl]
  exact eqEntryS_loop a hl a.length k 0 (by omega) (by omega) hk
theorem szEntry_tot (x0 : Int) (x1 : Int) (x2 : Int) (x3 : ByteArray) (a : Int) (h0 : 0 ≤ a) (h1 : a ≤ 1048576) (hs0 : x3.size ≤ 140737488351232) : ∃ r, laws_szEntry.f x0 x1 x2 x3 a = some r ∧ (0 ≤ r → r ≤ a ∧ (x3.size : Int) ≤ a) := by
  unfold laws_szEntry.f
  have w0 : wrap64 (a - (x3.size : Int)) = a - (x3.size : Int) := by unfold wrap64; omega
  simp only [w0]
  by_cases c0 : a - (x3.size : Int) < 0
  · rw [if_pos c0]; exact ⟨-1, rfl, fun h => by omega⟩
  rw [if_neg c0]
  exact ⟨_, rfl, fun _ => by omega⟩
theorem szEntryS_loop (l : List S120) (hl : l.length ≤ 1048576) (hs : ∀ x ∈ l, x.f3.size ≤ 140737488351232) (d : Nat) : ∀ (k i : Nat) (a : Int), i ≤ l.length → l.length - i = d → d < k → 0 ≤ a → a ≤ 1048576 → ∃ r, laws_szEntryS.l0 k l a (i : Int) = some r ∧ (0 ≤ r → r ≤ a ∧ ∀ j (h : j < l.length), i ≤ j → ((l[j].f3).size : Int) ≤ a) := by
  induction d with
  | zero =>
    intro k i a hi hd hk h0 h1
    obtain ⟨k, rfl⟩ : ∃ m, k = m + 1 := ⟨k - 1, by omega⟩
    simp only [laws_szEntryS.l0]
    rw [if_neg (by omega)]
    exact ⟨a, rfl, fun _ => ⟨Int.le_refl _, fun j h hj => by omega⟩⟩
  | succ d ih =>
    intro k i a hi hd hk h0 h1
    obtain ⟨k, rfl⟩ : ∃ m, k = m + 1 := ⟨k - 1, by omega⟩
    have hlt : i < l.length := by omega
    have hsi := hs l[i] (List.getElem_mem hlt)
    obtain ⟨r, hr, hb⟩ := szEntry_tot l[i].f0 l[i].f1 l[i].f2 l[i].f3 a h0 h1 hsi
    simp only [laws_szEntryS.l0]
    rw [if_pos (by omega), if_pos (by omega), rd120_at l i hlt, hr]
    simp only [Option.bind_some]
    by_cases hn : r < 0
    · rw [if_pos hn]; exact ⟨-1, rfl, fun h => by omega⟩
    · rw [if_neg hn, cast_wrap hlt (by omega)]
      have hb' := hb (by omega)
      obtain ⟨q, hq, hqb⟩ := ih k (i + 1) r (by omega) (by omega) (by omega) (by omega) (by omega)
      refine ⟨q, hq, fun h => ⟨by have := hqb h; omega, fun j hj hij => ?_⟩⟩
      have hqb' := hqb h
      by_cases e : j = i
      · subst e; omega
      · have := hqb'.2 j hj (by omega)
        omega
theorem szEntryS_tot (l : List S120) (hs : ∀ x ∈ l, x.f3.size ≤ 140737488351232) (a : Int) (h0 : 0 ≤ a) (h1 : a ≤ 1048576) (hl : l.length ≤ 140737488351232) (k : Nat) (hk : 1048577 < k) : ∃ r, laws_szEntryS.f k l a = some r ∧ (0 ≤ r → r ≤ a ∧ (l.length : Int) ≤ a ∧ ∀ x ∈ l, ((x.f3).size : Int) ≤ a) := by
  unfold laws_szEntryS.f
  have hw : wrap64 (a - (l.length : Int)) = a - (l.length : Int) := by unfold wrap64; omega
  rw [hw]
  by_cases h : a - (l.length : Int) < 0
  · rw [if_pos h]; exact ⟨-1, rfl, fun h => by omega⟩
  · rw [if_neg h]
    obtain ⟨r, hr, hb⟩ := szEntryS_loop l (by omega) hs l.length k 0 (a - l.length) (by omega) (by omega) (by omega) (by omega) (by omega)
    refine ⟨r, hr, fun h => ?_⟩
    have hb' := hb h
    refine ⟨by omega, by omega, fun x hx => ?_⟩
    obtain ⟨j, hj, rfl⟩ := List.getElem_of_mem hx
    have := hb'.2 j hj (by omega)
    omega
theorem eqAgg_same (a b c d e f : Int) : laws_eqAgg.f a b c d e f a b c d e f = some true := by simp [laws_eqAgg.f]
theorem dig_one (c : Nat) (hc : c < 10) : strOfNums [(wrap64 (48 + (c : Int))) % 256] = (⟨#[UInt8.ofNat (48 + c)]⟩ : ByteArray) := by
  have e : (wrap64 (48 + (c : Int))) % 256 = ((48 + c : Nat) : Int) := by unfold wrap64; omega
  rw [e]
  unfold strOfNums
  rw [List.map_cons, List.map_nil, Int.toNat_natCast]
theorem mk_append (a b : List UInt8) : (⟨a.toArray⟩ : ByteArray) ++ (⟨b.toArray⟩ : ByteArray) = ⟨(a ++ b).toArray⟩ := by
  apply ByteArray.ext
  simp [ByteArray.data_append]
theorem dig_nat (d : Nat) : ∀ (k u : Nat), u < 10 ^ (d + 1) → u ≤ 9223372036854775807 → d < k → d < 100 → spec_l00Digits.f k (u : Int) = some ⟨(Lib.decDigits u).toArray⟩ ∧ (Lib.decDigits u).length ≤ d + 1 := by
  induction d with
  | zero =>
    intro k u hu h0 hk hd
    obtain ⟨k, rfl⟩ : ∃ m, k = m + 1 := ⟨k - 1, by omega⟩
    simp only [spec_l00Digits.f]
    rw [if_neg (by omega), if_neg (by omega), if_pos (by omega), dig_one u (by omega), Lib.decDigits_one (by omega)]
    exact ⟨rfl, by simp⟩
  | succ d ih =>
    intro k u hu h0 hk hd
    obtain ⟨k, rfl⟩ : ∃ m, k = m + 1 := ⟨k - 1, by omega⟩
    simp only [spec_l00Digits.f]
    by_cases h : u < 10
    · rw [if_neg (by omega), if_neg (by omega), if_pos (by omega), dig_one u h, Lib.decDigits_one h]
      exact ⟨rfl, by simp⟩
    · have hp : 10 ^ (d + 1 + 1) = 10 ^ (d + 1) * 10 := Nat.pow_succ ..
      have e1 : wrap64 (Int.tdiv (u : Int) 10) = ((u / 10 : Nat) : Int) := by
        have : Int.tdiv (u : Int) 10 = ((u / 10 : Nat) : Int) := by
          rw [Int.tdiv_eq_ediv_of_nonneg (by omega)]; rfl
        rw [this]; unfold wrap64; omega
      have e2 : Int.tmod (u : Int) 10 = ((u % 10 : Nat) : Int) := by
        rw [Int.tmod_eq_emod_of_nonneg (by omega)]; rfl
      obtain ⟨i1, i2⟩ := ih k (u / 10) (by omega) (by omega) (by omega) (by omega)
      rw [if_neg (by omega), if_neg (by omega), if_neg (by omega), e1, i1, e2]
      simp only [Option.bind_some]
      rw [dig_one (u % 10) (by omega), if_pos]
      · have hd : Lib.decDigits u = Lib.decDigits (u / 10) ++ [UInt8.ofNat (48 + u % 10)] := by
          conv => lhs; rw [Lib.decDigits]
          rw [dif_neg h]
        rw [hd, ← mk_append]
        refine ⟨rfl, ?_⟩
        rw [List.length_append, List.length_singleton]
        omega
      · show ((Lib.decDigits (u / 10)).toArray).size + 1 ≤ _
        rw [List.size_toArray]
        omega
theorem digits_eq (n : Int) (h0 : -9223372036854775808 ≤ n) (h1 : n ≤ 9223372036854775807) (k : Nat) (hk : 21 ≤ k) : spec_l00Digits.f k n = some ⟨(Lib.itoa n).toArray⟩ := by
  obtain ⟨k, rfl⟩ : ∃ m, k = m + 1 := ⟨k - 1, by omega⟩
  by_cases hn : n < 0
  · by_cases hm : n = -9223372036854775808
    · subst hm
      simp only [spec_l00Digits.f]
      rw [if_pos trivial]
      have e : Lib.itoa (-9223372036854775808) = 45 :: Lib.decDigits 9223372036854775808 := by unfold Lib.itoa; rw [if_pos (by decide)]; rfl
      have hq : Lib.decDigits 9223372036854775808 = Lib.decDigits 922337203685477580 ++ [UInt8.ofNat (48 + 8)] := by
        conv => lhs; rw [Lib.decDigits]
        rw [dif_neg (by decide)]
      rw [e, hq]
      simp [Lib.decDigits]
    · obtain ⟨u, rfl⟩ : ∃ u : Nat, n = -(u : Int) := ⟨n.natAbs, by omega⟩
      have e : wrap64 (-(-(u : Int))) = (u : Int) := by unfold wrap64; omega
      obtain ⟨i1, i2⟩ := dig_nat 19 k u (by omega) (by omega) (by omega) (by omega)
      simp only [spec_l00Digits.f]
      rw [if_neg hm, if_pos hn, e, i1]
      simp only [Option.bind_some]
      rw [if_pos]
      · have : Lib.itoa (-(u : Int)) = [45] ++ Lib.decDigits u := by unfold Lib.itoa; rw [if_pos hn]; simp
        rw [this, ← mk_append]
      · show 1 + ((Lib.decDigits u).toArray).size ≤ _
        rw [List.size_toArray]
        omega
  · obtain ⟨u, rfl⟩ : ∃ u : Nat, n = (u : Int) := ⟨n.toNat, by omega⟩
    rw [(dig_nat 19 (k + 1) u (by omega) (by omega) (by omega) (by omega)).1]
    have : Lib.itoa (u : Int) = Lib.decDigits u := by unfold Lib.itoa; rw [if_neg hn]; simp
    rw [this]
theorem itoa_size (n : Int) (h0 : -9223372036854775808 ≤ n) (h1 : n ≤ 9223372036854775807) : (⟨(Lib.itoa n).toArray⟩ : ByteArray).size ≤ 21 := by
  show ((Lib.itoa n).toArray).size ≤ 21
  rw [List.size_toArray]
  exact Lib.itoa_length_le n h0 h1
/-- the last w digits -/
def fw : Nat → Nat → List UInt8
  | 0, _ => []
  | w + 1, u => fw w (u / 10) ++ [UInt8.ofNat (48 + u % 10)]
theorem fw_length : ∀ w u, (fw w u).length = w
  | 0, _ => rfl
  | w + 1, u => by simp [fw, fw_length w]
theorem dec_step (u : Nat) (h : ¬ u < 10) : Lib.decDigits u = Lib.decDigits (u / 10) ++ [UInt8.ofNat (48 + u % 10)] := by
  conv => lhs; rw [Lib.decDigits]
  rw [dif_neg h]
theorem fw_dec : ∀ (w u : Nat), u < 10 ^ w → Lib.decDigits (10 ^ w + u) = 49 :: fw w u
  | 0, u, h => by
    obtain rfl : u = 0 := by simpa using h
    rw [Lib.decDigits_one (by decide)]
    rfl
  | w + 1, u, h => by
    have hp : 10 ^ (w + 1) = 10 ^ w * 10 := Nat.pow_succ ..
    have h1 : 1 ≤ 10 ^ w := Nat.one_le_pow _ _ (by decide)
    rw [dec_step _ (by omega), show (10 ^ (w + 1) + u) / 10 = 10 ^ w + u / 10 by omega, show (10 ^ (w + 1) + u) % 10 = u % 10 by omega, fw_dec w (u / 10) (by omega)]
    rfl
theorem fw_pad : ∀ (w u : Nat), u < 10 ^ (w + 1) → fw (w + 1) u = List.replicate (w + 1 - (Lib.decDigits u).length) 48 ++ Lib.decDigits u ∧ (Lib.decDigits u).length ≤ w + 1
  | 0, u, h => by
    have hu : u < 10 := by simpa using h
    rw [Lib.decDigits_one hu]
    simp [fw, Nat.mod_eq_of_lt hu]
  | w + 1, u, h => by
    have hp : 10 ^ (w + 1 + 1) = 10 ^ (w + 1) * 10 := Nat.pow_succ ..
    obtain ⟨i1, i2⟩ := fw_pad w (u / 10) (by omega)
    rw [fw, i1]
    by_cases hu : u < 10
    · have h0 : u / 10 = 0 := by omega
      rw [h0, Lib.decDigits_one (show 0 < 10 by decide), Lib.decDigits_one hu, Nat.mod_eq_of_lt hu]
      refine ⟨?_, by simp⟩
      have e : UInt8.ofNat (48 + 0) = 48 := rfl
      rw [e]
      simp only [List.length_singleton, Nat.add_sub_cancel]
      rw [show w + 1 = (w + 1) from rfl, List.replicate_succ' (n := w)]
    · rw [dec_step u hu]
      refine ⟨?_, by simp; omega⟩
      rw [List.length_append, List.length_singleton, ← List.append_assoc]
      congr 3
      omega
theorem wide_loop (d : Nat) : ∀ (k : Nat) (l : List UInt8), l.length ≤ 6 → 6 - l.length = d → d < k → spec_l03Wide.l0 k 6 ⟨l.toArray⟩ = some ⟨(List.replicate d 48 ++ l).toArray⟩ := by
  induction d with
  | zero =>
    intro k l hl hd hk
    obtain ⟨k, rfl⟩ : ∃ m, k = m + 1 := ⟨k - 1, by omega⟩
    simp only [spec_l03Wide.l0]
    rw [if_neg]
    · rfl
    · show ¬ ((l.toArray.size : Nat) : Int) < 6
      rw [List.size_toArray]; omega
  | succ d ih =>
    intro k l hl hd hk
    obtain ⟨k, rfl⟩ : ∃ m, k = m + 1 := ⟨k - 1, by omega⟩
    simp only [spec_l03Wide.l0]
    rw [if_pos, if_pos]
    · have e : (⟨#[48]⟩ : ByteArray) ++ (⟨l.toArray⟩ : ByteArray) = ⟨(48 :: l).toArray⟩ := mk_append [48] l
      rw [e, ih k (48 :: l) (by simp; omega) (by simp; omega) (by omega), List.replicate_succ', List.append_assoc]
      rfl
    · show 1 + l.toArray.size ≤ _
      rw [List.size_toArray]; omega
    · show ((l.toArray.size : Nat) : Int) < 6
      rw [List.size_toArray]; omega
def s6 (n : Int) : ByteArray := ⟨(fw 6 n.toNat).toArray⟩
theorem s6_size (n : Int) : (s6 n).size = 6 := by
  show (fw 6 n.toNat).toArray.size = 6
  rw [List.size_toArray, fw_length]
theorem wide_eq (n : Int) (h0 : 0 ≤ n) (h1 : n ≤ 999999) (k : Nat) (hk : 21 ≤ k) : spec_l03Wide.f k n 6 = some (s6 n) := by
  obtain ⟨u, rfl⟩ : ∃ u : Nat, n = (u : Int) := ⟨n.toNat, by omega⟩
  unfold spec_l03Wide.f
  rw [digits_eq _ (by omega) (by omega) k hk]
  simp only [Option.bind_some]
  have e : Lib.itoa (u : Int) = Lib.decDigits u := by unfold Lib.itoa; rw [if_neg (by omega)]; simp
  obtain ⟨p1, p2⟩ := fw_pad 5 u (by omega)
  rw [e, wide_loop (6 - (Lib.decDigits u).length) k _ p2 rfl (by omega)]
  unfold s6
  rw [Int.toNat_natCast, p1]
theorem six_eq (n : Int) (h0 : 0 ≤ n) (h1 : n ≤ 999999) : impl_six.f n = some (s6 n) := by
  obtain ⟨u, rfl⟩ : ∃ u : Nat, n = (u : Int) := ⟨n.toNat, by omega⟩
  have hw : wrap64 (1000000 + (u : Int)) = ((10 ^ 6 + u : Nat) : Int) := by unfold wrap64; omega
  unfold impl_six.f strconv_Itoa.f
  rw [hw, if_pos (by omega)]
  have e : Lib.itoa ((10 ^ 6 + u : Nat) : Int) = 49 :: fw 6 u := by
    unfold Lib.itoa
    rw [if_neg (by omega), Int.toNat_natCast, fw_dec 6 u (by omega)]
  simp only [Option.bind_some]
  rw [e]
  have hsz : (⟨(49 :: fw 6 u).toArray⟩ : ByteArray).size = 7 := by
    show (49 :: fw 6 u).toArray.size = 7
    rw [List.size_toArray, List.length_cons, fw_length]
  rw [hsz, if_pos (by decide)]
  unfold s6
  rw [Int.toNat_natCast]
  have hx : (⟨(49 :: fw 6 u).toArray⟩ : ByteArray).extract 1 7 = ⟨(fw 6 u).toArray⟩ := by
    apply ByteArray.ext
    rw [ByteArray.data_extract]
    simp [List.extract, fw_length]
    exact List.take_of_length_le (by rw [fw_length]; omega)
  rw [hx]
def pre3 (a : Int) : List UInt8 := if a = 0 then [114, 97, 119, 47] else if a = 1 then [116, 49, 47] else [116, 50, 47]
def keyB (a b c : Int) : ByteArray := ⟨(pre3 a ++ fw 6 b.toNat ++ [45] ++ fw 6 c.toNat).toArray⟩
theorem key_spec (a b c : Int) (h1 : 0 ≤ a ∧ a ≤ 2) (h2 : 0 ≤ b ∧ b ≤ 999999) (h3 : 0 ≤ c ∧ c ≤ 999999) (k : Nat) (hk : 21 ≤ k) : spec_l03Key.f k a b c = some (keyB a b c) := by
  unfold spec_l03Key.f
  rw [wide_eq b h2.1 h2.2 k hk, wide_eq c h3.1 h3.2 k hk]
  simp only [Option.bind_some]
  have hs := s6_size b
  have ht := s6_size c
  have hz : ∀ (l : List UInt8), (⟨l.toArray⟩ : ByteArray).size = l.length := fun l => by show l.toArray.size = _; rw [List.size_toArray]
  rw [if_pos h1.1, if_pos (by show a < (3 : Int); omega)]
  have hx : rdOf ByteArray.empty [(⟨#[114, 97, 119]⟩ : ByteArray), (⟨#[116, 49]⟩ : ByteArray), (⟨#[116, 50]⟩ : ByteArray)] a = if a = 0 then (⟨#[114, 97, 119]⟩ : ByteArray) else if a = 1 then (⟨#[116, 49]⟩ : ByteArray) else (⟨#[116, 50]⟩ : ByteArray) := by
    have : a = 0 ∨ a = 1 ∨ a = 2 := by omega
    rcases this with rfl | rfl | rfl <;> rfl
  rw [hx]
  have ex : (if a = 0 then (⟨#[114, 97, 119]⟩ : ByteArray) else if a = 1 then (⟨#[116, 49]⟩ : ByteArray) else (⟨#[116, 50]⟩ : ByteArray)) ++ (⟨#[47]⟩ : ByteArray) = ⟨(pre3 a).toArray⟩ := by
    unfold pre3
    split
    · rfl
    · split <;> rfl
  have hl : (pre3 a).length ≤ 4 := by
    unfold pre3
    split
    · decide
    · split <;> decide
  have hy : (if a = 0 then (⟨#[114, 97, 119]⟩ : ByteArray) else if a = 1 then (⟨#[116, 49]⟩ : ByteArray) else (⟨#[116, 50]⟩ : ByteArray)).size ≤ 3 := by
    split
    · decide
    · split <;> decide
  rw [if_pos (by omega), ex, if_pos (by rw [hz]; omega)]
  have e2 : (⟨(pre3 a).toArray⟩ : ByteArray) ++ s6 b = ⟨(pre3 a ++ fw 6 b.toNat).toArray⟩ := mk_append _ _
  have e3 : (⟨(pre3 a ++ fw 6 b.toNat).toArray⟩ : ByteArray) ++ (⟨#[45]⟩ : ByteArray) = ⟨(pre3 a ++ fw 6 b.toNat ++ [45]).toArray⟩ := mk_append _ [45]
  have e4 : (⟨(pre3 a ++ fw 6 b.toNat ++ [45]).toArray⟩ : ByteArray) ++ s6 c = keyB a b c := mk_append _ _
  rw [e2, if_pos (by rw [hz, List.length_append, fw_length]; omega), e3, if_pos (by rw [hz, List.length_append, List.length_append, fw_length, List.length_singleton]; omega), e4]
theorem size_mk (l : List UInt8) : (⟨l.toArray⟩ : ByteArray).size = l.length := by
  show l.toArray.size = l.length
  rw [List.size_toArray]
theorem mk_data (s : ByteArray) : (⟨s.data.toList.toArray⟩ : ByteArray) = s := by
  cases s
  simp
theorem bt_mk (l : List UInt8) (i : Nat) (h : i < l.length) : bt ⟨l.toArray⟩ (i : Int) = ((l[i].toNat : Nat) : Int) := by
  rw [← bt_at _ _ (by rw [Int.toNat_natCast, size_mk]; exact h)]
  simp only [Int.toNat_natCast]
  rfl
theorem extract_mk (l : List UInt8) (i : Nat) : (⟨l.toArray⟩ : ByteArray).extract i (⟨l.toArray⟩ : ByteArray).size = ⟨(l.drop i).toArray⟩ := by
  rw [size_mk]
  apply ByteArray.ext
  rw [ByteArray.data_extract]
  simp [List.extract, List.take_of_length_le]
def isDig (c : UInt8) : Bool := decide (48 ≤ c.toNat) && decide (c.toNat ≤ 57)
def dval (a : Nat) (l : List UInt8) : Nat := l.foldl (fun a c => a * 10 + (c.toNat - 48)) a
theorem dval_cons (a : Nat) (c : UInt8) (l : List UInt8) : dval a (c :: l) = dval (a * 10 + (c.toNat - 48)) l := by
  unfold dval
  rw [List.foldl_cons]
theorem dval_append (a : Nat) (l : List UInt8) (c : UInt8) : dval a (l ++ [c]) = dval a l * 10 + (c.toNat - 48) := by
  unfold dval
  rw [List.foldl_append, List.foldl_cons, List.foldl_nil]
theorem dval_ge (l : List UInt8) : ∀ a, a ≤ dval a l := by
  induction l with
  | nil => intro a; exact Nat.le_refl a
  | cons c l ih =>
    intro a
    rw [dval_cons]
    have := ih (a * 10 + (c.toNat - 48))
    omega
theorem dval_lt (l : List UInt8) : ∀ a, (l.all isDig) = true → dval a l < (a + 1) * 10 ^ l.length := by
  induction l with
  | nil => intro a _; simp [dval]
  | cons c l ih =>
    intro a h
    rw [List.all_cons, Bool.and_eq_true] at h
    have h1 : c.toNat ≤ 57 := by have := h.1; simp [isDig] at this; omega
    have := ih (a * 10 + (c.toNat - 48)) h.2
    rw [dval_cons, List.length_cons, Nat.pow_succ]
    refine Nat.lt_of_lt_of_le this ?_
    have e : (a + 1) * (10 ^ l.length * 10) = ((a + 1) * 10) * 10 ^ l.length := by rw [Nat.mul_comm (10 ^ l.length) 10, Nat.mul_assoc]
    rw [e]
    exact Nat.mul_le_mul_right _ (by omega)
theorem parse_ok (l : List UInt8) : ∀ a, (l.all isDig) = true → dval a l ≤ 1000000000000000000 → Lib.parseUint10 a l = .ok (dval a l) := by
  induction l with
  | nil => intro a _ _; rfl
  | cons c l ih =>
    intro a h hb
    rw [List.all_cons, Bool.and_eq_true] at h
    have hc : 48 ≤ c.toNat ∧ c.toNat ≤ 57 := by have := h.1; simp [isDig] at this; omega
    rw [dval_cons] at hb ⊢
    have hg := dval_ge l (a * 10 + (c.toNat - 48))
    simp only [Lib.parseUint10]
    rw [if_pos hc, if_neg (by omega), if_neg (by omega)]
    exact ih _ h.2 hb
theorem ofNat_toNat (n : Nat) (h : n < 256) : (UInt8.ofNat n).toNat = n := by
  simp only [UInt8.toNat_ofNat']
  omega
theorem dec_dig (d : Nat) : ∀ u, u ≤ d → ((Lib.decDigits u).all isDig) = true ∧ dval 0 (Lib.decDigits u) = u ∧ Lib.decDigits u ≠ [] := by
  induction d with
  | zero =>
    intro u h
    obtain rfl : u = 0 := by omega
    rw [Lib.decDigits_one (by decide)]
    exact ⟨by decide, by decide, by simp⟩
  | succ d ih =>
    intro u h
    by_cases hu : u < 10
    · rw [Lib.decDigits_one hu]
      have e := ofNat_toNat (48 + u) (by omega)
      refine ⟨?_, ?_, by simp⟩
      · simp only [List.all_cons, List.all_nil, Bool.and_true, isDig, e]
        simp
        omega
      · show 0 * 10 + ((UInt8.ofNat (48 + u)).toNat - 48) = u
        rw [e]; omega
    · have hs : Lib.decDigits u = Lib.decDigits (u / 10) ++ [UInt8.ofNat (48 + u % 10)] := by
        conv => lhs; rw [Lib.decDigits]
        rw [dif_neg hu]
      obtain ⟨i1, i2, i3⟩ := ih (u / 10) (by omega)
      have e := ofNat_toNat (48 + u % 10) (by omega)
      rw [hs]
      refine ⟨?_, ?_, by simp⟩
      · rw [List.all_append, i1]
        simp only [List.all_cons, List.all_nil, Bool.and_true, isDig, e, Bool.true_and]
        simp
        omega
      · rw [dval_append, i2, e]; omega
theorem dec_head (d : Nat) : ∀ u, u ≤ d → 1 ≤ u → ∃ c l, Lib.decDigits u = c :: l ∧ c.toNat ≠ 48 := by
  induction d with
  | zero => intro u h h1; omega
  | succ d ih =>
    intro u h h1
    by_cases hu : u < 10
    · rw [Lib.decDigits_one hu]
      exact ⟨_, _, rfl, by rw [ofNat_toNat _ (by omega)]; omega⟩
    · have hs : Lib.decDigits u = Lib.decDigits (u / 10) ++ [UInt8.ofNat (48 + u % 10)] := by
        conv => lhs; rw [Lib.decDigits]
        rw [dif_neg hu]
      obtain ⟨c, l, e, hc⟩ := ih (u / 10) (by omega) (by omega)
      rw [hs, e]
      exact ⟨c, _, rfl, hc⟩
/-- the digits of a number below 10^w are at most w -/
theorem dec_len (w : Nat) : ∀ u, u < 10 ^ (w + 1) → (Lib.decDigits u).length ≤ w + 1 := by
  induction w with
  | zero => intro u h; rw [Lib.decDigits_one (by simpa using h)]; simp
  | succ w ih =>
    intro u h
    have hp : 10 ^ (w + 1 + 1) = 10 ^ (w + 1) * 10 := Nat.pow_succ ..
    by_cases hu : u < 10
    · rw [Lib.decDigits_one hu]; simp
    · have hs : Lib.decDigits u = Lib.decDigits (u / 10) ++ [UInt8.ofNat (48 + u % 10)] := by
        conv => lhs; rw [Lib.decDigits]
        rw [dif_neg hu]
      rw [hs, List.length_append, List.length_singleton]
      have := ih (u / 10) (by omega)
      omega
theorem itoa_of_nat (u : Nat) : Lib.itoa (u : Int) = Lib.decDigits u := by unfold Lib.itoa; rw [if_neg (by omega)]; simp
theorem itoa_of_neg (u : Nat) (h : 1 ≤ u) : Lib.itoa (-(u : Int)) = 45 :: Lib.decDigits u := by unfold Lib.itoa; rw [if_pos (by omega)]; simp
/-- what is told of a number of at most 18 digits is read again -/
theorem atoi_itoa (v : Int) (h0 : -1000000000000000000 < v) (h1 : v < 1000000000000000000) : Lib.atoiAll (Lib.itoa v) = .ok v := by
  by_cases hv : v < 0
  · obtain ⟨u, rfl⟩ : ∃ u : Nat, v = -(u : Int) := ⟨v.natAbs, by omega⟩
    rw [itoa_of_neg u (by omega), Lib.atoiAll_minus]
    obtain ⟨i1, i2, i3⟩ := dec_dig u u (Nat.le_refl u)
    have hp : Lib.parseMag (Lib.decDigits u) = .ok u := by
      unfold Lib.parseMag
      rw [if_neg i3, parse_ok _ 0 i1 (by rw [i2]; omega), i2]
    rw [hp]
    unfold Lib.signed
    simp only
    rw [if_neg (by omega)]
  · obtain ⟨u, rfl⟩ : ∃ u : Nat, v = (u : Int) := ⟨v.toNat, by omega⟩
    rw [itoa_of_nat u]
    obtain ⟨i1, i2, i3⟩ := dec_dig u u (Nat.le_refl u)
    have hp : Lib.parseMag (Lib.decDigits u) = .ok u := by
      unfold Lib.parseMag
      rw [if_neg i3, parse_ok _ 0 i1 (by rw [i2]; omega), i2]
    cases hd : Lib.decDigits u with
    | nil => exact absurd hd i3
    | cons c r =>
      rw [hd] at i1 hp
      have hc : 48 ≤ c.toNat := by rw [List.all_cons, Bool.and_eq_true] at i1; have := i1.1; simp [isDig] at this; omega
      rw [Lib.atoiAll_plain c r (by omega) (by omega), hp]
      unfold Lib.signless
      simp only
      rw [if_neg (by omega)]
theorem wrap_id (n : Int) (h0 : -9223372036854775808 ≤ n) (h1 : n ≤ 9223372036854775807) : wrap64 n = n := by
  unfold wrap64
  omega
/-- a list parted at each c -/
def pieces (c : UInt8) : List UInt8 → List (List UInt8)
  | [] => [[]]
  | b :: l => if b = c then [] :: pieces c l else match pieces c l with
    | p :: ps => (b :: p) :: ps
    | [] => [[b]]
theorem pieces_ne (c : UInt8) : ∀ l, pieces c l ≠ []
  | [] => by simp [pieces]
  | b :: l => by
    unfold pieces
    split
    · simp
    · split <;> simp
theorem pieces_len (c : UInt8) : ∀ l, (pieces c l).length ≤ l.length + 1
  | [] => by simp [pieces]
  | b :: l => by
    have ih := pieces_len c l
    unfold pieces
    split
    · simp only [List.length_cons]; omega
    · split
      · rename_i p ps h; rw [h] at ih; simp only [List.length_cons] at ih ⊢; omega
      · simp
theorem pieces_bytes (c : UInt8) : ∀ l, ∀ p ∈ pieces c l, p.length ≤ l.length
  | [], p, hp => by simp [pieces] at hp; simp [hp]
  | b :: l, p, hp => by
    have ih := pieces_bytes c l
    unfold pieces at hp
    split at hp
    · rcases List.mem_cons.1 hp with rfl | hp
      · simp
      · have := ih p hp; simp only [List.length_cons]; omega
    · split at hp
      · rename_i q qs h
        rw [h] at ih
        rcases List.mem_cons.1 hp with rfl | hp
        · have := ih q (by simp); simp only [List.length_cons]; omega
        · have := ih p (by simp [hp]); simp only [List.length_cons]; omega
      · simp at hp; subst hp; simp
theorem pieces_app (c : UInt8) (b : List UInt8) : ∀ a, c ∉ a → pieces c (a ++ c :: b) = a :: pieces c b
  | [], _ => by simp [pieces]
  | x :: a, h => by
    have hx : ¬ x = c := fun e => h (by simp [e])
    have ih := pieces_app c b a (fun e => h (by simp [e]))
    show pieces c (x :: (a ++ c :: b)) = _
    rw [pieces, if_neg hx, ih]
theorem pieces_none (c : UInt8) : ∀ a, c ∉ a → pieces c a = [a]
  | [], _ => rfl
  | x :: a, h => by
    have hx : ¬ x = c := fun e => h (by simp [e])
    have ih := pieces_none c a (fun e => h (by simp [e]))
    rw [pieces, if_neg hx, ih]
theorem index_one (c : UInt8) : ∀ l, (Lib.index l [c] = -1 ∧ c ∉ l) ∨ (∃ i : Nat, Lib.index l [c] = i ∧ i < l.length ∧ c ∉ l.take i ∧ l = l.take i ++ c :: l.drop (i + 1))
  | [] => .inl ⟨rfl, by simp⟩
  | b :: l => by
    unfold Lib.index
    by_cases hb : b = c
    · subst hb
      refine .inr ⟨0, ?_, by simp, by simp, by simp⟩
      rw [if_pos (by simp)]
      rfl
    · rw [if_neg (by simp [List.isPrefixOf]; exact fun e => hb e.symm)]
      rcases index_one c l with ⟨h1, h2⟩ | ⟨i, h1, h2, h3, h4⟩
      · refine .inl ⟨by rw [h1]; rfl, ?_⟩
        rintro h
        rcases List.mem_cons.1 h with e | h
        · exact hb e.symm
        · exact h2 h
      · refine .inr ⟨i + 1, ?_, by simp only [List.length_cons]; omega, ?_, ?_⟩
        · rw [h1, if_neg (by rw [beq_iff_eq]; omega)]
          rfl
        · rw [List.take_succ_cons]
          rintro h
          rcases List.mem_cons.1 h with e | h
          · exact hb e.symm
          · exact h3 h
        · rw [List.take_succ_cons, List.drop_succ_cons, List.cons_append, ← h4]
theorem extract_take (l : List UInt8) (i : Nat) : (⟨l.toArray⟩ : ByteArray).extract 0 i = ⟨(l.take i).toArray⟩ := by
  apply ByteArray.ext
  rw [ByteArray.data_extract]
  simp [List.extract]
theorem splitB_pieces (c : UInt8) : ∀ (m : Nat) (l : List UInt8),
    ((pieces c l).length ≤ m + 1 → Lib.splitB ⟨#[c]⟩ 0 m ⟨l.toArray⟩ = (pieces c l).map fun p => (⟨p.toArray⟩ : ByteArray)) ∧ (m + 1 < (pieces c l).length → (Lib.splitB ⟨#[c]⟩ 0 m ⟨l.toArray⟩).length = m + 1)
  | 0, l => by
    refine ⟨fun h => ?_, fun _ => rfl⟩
    rcases index_one c l with ⟨h1, h2⟩ | ⟨i, h1, h2, h3, h4⟩
    · rw [pieces_none c l h2]; rfl
    · rw [h4, pieces_app c _ _ h3] at h
      have := pieces_ne c (l.drop (i + 1))
      have : 0 < (pieces c (l.drop (i + 1))).length := List.length_pos_iff.2 this
      simp only [List.length_cons] at h
      omega
  | m + 1, l => by
    have hB : Lib.indexB (⟨l.toArray⟩ : ByteArray) ⟨#[c]⟩ = Lib.index l [c] := rfl
    rcases index_one c l with ⟨h1, h2⟩ | ⟨i, h1, h2, h3, h4⟩
    · rw [Lib.splitB_miss _ _ _ _ (by rw [hB, h1]), pieces_none c l h2]
      exact ⟨fun _ => rfl, fun h => by simp at h⟩
    · rw [Lib.splitB_hit _ _ _ _ i (by rw [hB, h1])]
      have ih := splitB_pieces c m (l.drop (i + 1))
      have e1 : (⟨l.toArray⟩ : ByteArray).extract 0 (i + 0) = ⟨(l.take i).toArray⟩ := extract_take l i
      have e2 : (⟨l.toArray⟩ : ByteArray).extract (i + (⟨#[c]⟩ : ByteArray).size) (⟨l.toArray⟩ : ByteArray).size = ⟨(l.drop (i + 1)).toArray⟩ := extract_mk l (i + 1)
      rw [e1, e2]
      have hp : pieces c l = l.take i :: pieces c (l.drop (i + 1)) := by
        conv => lhs; rw [h4]
        exact pieces_app c _ _ h3
      rw [hp]
      simp only [List.length_cons, List.map_cons]
      refine ⟨fun h => ?_, fun h => ?_⟩
      · rw [ih.1 (by omega)]
      · rw [ih.2 (by omega)]
theorem splitB_size (c : UInt8) : ∀ (m : Nat) (l : List UInt8), ∀ p ∈ Lib.splitB ⟨#[c]⟩ 0 m ⟨l.toArray⟩, p.size ≤ l.length
  | 0, l, p, hp => by
    rw [Lib.splitB_zero] at hp
    rw [List.mem_singleton.1 hp, size_mk]
    exact Nat.le_refl _
  | m + 1, l, p, hp => by
    have hB : Lib.indexB (⟨l.toArray⟩ : ByteArray) ⟨#[c]⟩ = Lib.index l [c] := rfl
    rcases index_one c l with ⟨h1, h2⟩ | ⟨i, h1, h2, h3, h4⟩
    · rw [Lib.splitB_miss _ _ _ _ (by rw [hB, h1])] at hp
      rw [List.mem_singleton.1 hp, size_mk]
      exact Nat.le_refl _
    · rw [Lib.splitB_hit _ _ _ _ i (by rw [hB, h1])] at hp
      have e1 : (⟨l.toArray⟩ : ByteArray).extract 0 (i + 0) = ⟨(l.take i).toArray⟩ := extract_take l i
      have e2 : (⟨l.toArray⟩ : ByteArray).extract (i + (⟨#[c]⟩ : ByteArray).size) (⟨l.toArray⟩ : ByteArray).size = ⟨(l.drop (i + 1)).toArray⟩ := extract_mk l (i + 1)
      rw [e1, e2] at hp
      rcases List.mem_cons.1 hp with rfl | hp
      · rw [size_mk, List.length_take]; omega
      · have := splitB_size c m _ p hp
        rw [List.length_drop] at this
        omega
def mkP (l : List (List UInt8)) : List ByteArray := l.map fun p => (⟨p.toArray⟩ : ByteArray)
def joinH (p : List UInt8) : List (List UInt8) → List (List UInt8)
  | q :: qs => (p ++ q) :: qs
  | [] => [p]
theorem extract_mid (l : List UInt8) (i j : Nat) : (⟨l.toArray⟩ : ByteArray).extract i j = ⟨((l.drop i).take (j - i)).toArray⟩ := by
  apply ByteArray.ext
  rw [ByteArray.data_extract]
  simp [List.extract, List.take_drop]
theorem cut_loop (c : UInt8) (l : List UInt8) (hl : l.length ≤ 1048576) (d : Nat) : ∀ (k i f : Nat) (out : List ByteArray), i ≤ l.length → f ≤ i → out.length ≤ i → l.length - i = d → d < k →
    spec_l00Cut.l0 k ⟨l.toArray⟩ ((c.toNat : Nat) : Int) out (f : Int) (i : Int) = some (out ++ mkP (joinH ((l.drop f).take (i - f)) (pieces c (l.drop i)))) := by
  induction d with
  | zero =>
    intro k i f out hi hf ho hd hk
    obtain ⟨k, rfl⟩ : ∃ m, k = m + 1 := ⟨k - 1, by omega⟩
    obtain rfl : i = l.length := by omega
    simp only [spec_l00Cut.l0]
    rw [if_neg (by rw [size_mk]; omega), if_pos (by omega), if_pos (by rw [size_mk]; omega), if_pos (by omega), List.drop_length, Int.toNat_natCast, extract_mk]
    simp [pieces, joinH, mkP, List.take_of_length_le]
  | succ d ih =>
    intro k i f out hi hf ho hd hk
    obtain ⟨k, rfl⟩ : ∃ m, k = m + 1 := ⟨k - 1, by omega⟩
    have hlt : i < l.length := by omega
    have hb := bt_mk l i hlt
    have hdr := List.drop_eq_getElem_cons hlt
    have hw : wrap64 ((i : Int) + 1) = ((i + 1 : Nat) : Int) := by unfold wrap64; omega
    simp only [spec_l00Cut.l0]
    rw [if_pos (by rw [size_mk]; omega), if_pos (by omega), hb, hdr, hw]
    by_cases hc : l[i] = c
    · rw [if_pos (by rw [hc]), if_pos (by omega), if_pos (by omega), if_pos (by rw [size_mk]; omega), if_pos (by omega), Int.toNat_natCast, Int.toNat_natCast, extract_mid,
        ih k (i + 1) (i + 1) _ (by omega) (by omega) (by rw [List.length_append, List.length_singleton]; omega) (by omega) (by omega)]
      rw [pieces, if_pos hc, Nat.sub_self, List.take_zero]
      cases hp : pieces c (l.drop (i + 1)) with
      | nil => exact absurd hp (pieces_ne c _)
      | cons p ps => simp [joinH, mkP]
    · have hn : ¬ ((l[i].toNat : Nat) : Int) = ((c.toNat : Nat) : Int) := fun e => hc (UInt8.toNat_inj.1 (by omega))
      rw [if_neg hn, ih k (i + 1) f out (by omega) (by omega) (by omega) (by omega) (by omega)]
      rw [pieces, if_neg hc]
      have ht : (l.drop f).take (i + 1 - f) = (l.drop f).take (i - f) ++ [l[i]] := by
        rw [show i + 1 - f = (i - f) + 1 by omega, List.take_succ_eq_append_getElem (by rw [List.length_drop]; omega)]
        congr 2
        rw [List.getElem_drop]
        congr 1
        omega
      rw [ht]
      cases hp : pieces c (l.drop (i + 1)) with
      | nil => exact absurd hp (pieces_ne c _)
      | cons p ps => simp [joinH, mkP]
theorem cut_eq (s : ByteArray) (c : UInt8) (hs : s.size ≤ 1048576) (k : Nat) (hk : s.size < k) : spec_l00Cut.f k s ((c.toNat : Nat) : Int) = some (mkP (pieces c s.data.toList)) := by
  unfold spec_l00Cut.f
  have hsz : s.size = s.data.toList.length := by rw [Array.length_toList]; rfl
  have h := cut_loop c s.data.toList (by omega) s.data.toList.length k 0 0 [] (by omega) (by omega) (by simp) (by omega) (by omega)
  rw [mk_data] at h
  rw [show ((0 : Nat) : Int) = 0 from rfl] at h
  rw [h, List.drop_zero, Nat.sub_self, List.take_zero]
  cases hp : pieces c s.data.toList with
  | nil => exact absurd hp (pieces_ne c _)
  | cons p ps => simp [joinH]
def isKey (s : ByteArray) (a b c : Int) : Prop := (0 ≤ a ∧ a ≤ 2) ∧ (0 ≤ b ∧ b ≤ 999999) ∧ (0 ≤ c ∧ c ≤ 999999) ∧ s = keyB a b c
theorem keyok_eq (a b c : Int) : ∃ r, spec_l03KeyOK.f a b c = some r ∧ (r = true ↔ (0 ≤ a ∧ a ≤ 2) ∧ (0 ≤ b ∧ b ≤ 999999) ∧ (0 ≤ c ∧ c ≤ 999999)) := by
  unfold spec_l03KeyOK.f
  simp only [in_eq, Option.bind_some]
  by_cases h1 : 0 ≤ a ∧ a ≤ 2
  · have e1 : (decide (0 ≤ a) && decide (a ≤ 2)) = true := by simp [h1]
    rw [e1, if_pos rfl]
    by_cases h2 : 0 ≤ b ∧ b ≤ 999999
    · have e2 : (decide (0 ≤ b) && decide (b ≤ 999999)) = true := by simp [h2]
      rw [e2, if_pos rfl]
      exact ⟨_, rfl, by rw [Bool.and_eq_true, decide_eq_true_eq, decide_eq_true_eq]; exact ⟨fun h => ⟨h1, h2, h⟩, fun h => h.2.2⟩⟩
    · have e2 : (decide (0 ≤ b) && decide (b ≤ 999999)) = false := by
        rw [Bool.and_eq_false_iff, decide_eq_false_iff_not, decide_eq_false_iff_not]; omega
      rw [e2]
      exact ⟨false, by simp, by simp; intro _ _ h3 h4; exact absurd ⟨h3, h4⟩ h2⟩
  · have e1 : (decide (0 ≤ a) && decide (a ≤ 2)) = false := by
      rw [Bool.and_eq_false_iff, decide_eq_false_iff_not, decide_eq_false_iff_not]; omega
    rw [e1]
    exact ⟨false, by simp, by simp; intro h3 h4; exact absurd ⟨h3, h4⟩ h1⟩
theorem fw_dig : ∀ w u, (fw w u).all isDig = true ∧ dval 0 (fw w u) = u % 10 ^ w
  | 0, u => ⟨rfl, by simp [fw, dval, Nat.mod_one]⟩
  | w + 1, u => by
    obtain ⟨i1, i2⟩ := fw_dig w (u / 10)
    have e := ofNat_toNat (48 + u % 10) (by omega)
    rw [fw]
    refine ⟨?_, ?_⟩
    · rw [List.all_append, i1]
      simp only [List.all_cons, List.all_nil, Bool.and_true, isDig, e, Bool.true_and]
      simp
      omega
    · rw [dval_append, i2, e, Nat.pow_succ, Nat.mul_comm (10 ^ w) 10, Nat.mod_mul]
      omega
theorem fw_not (x : UInt8) (hx : isDig x = false) (w u : Nat) : x ∉ fw w u := fun h => by
  have := List.all_eq_true.1 (fw_dig w u).1 x h
  rw [hx] at this
  cases this
theorem digit_eq (c : UInt8) : spec_l00Digit.f ((c.toNat : Nat) : Int) = some (isDig c) := by
  unfold spec_l00Digit.f isDig
  by_cases h : ((c.toNat : Nat) : Int) ≥ 48
  · rw [if_pos h, show decide (48 ≤ c.toNat) = true from decide_eq_true (by omega), Bool.true_and]
    congr 1
    by_cases h2 : c.toNat ≤ 57
    · rw [decide_eq_true (by omega), decide_eq_true h2]
    · rw [decide_eq_false (by omega), decide_eq_false h2]
  · rw [if_neg h, show decide (48 ≤ c.toNat) = false from decide_eq_false (by omega), Bool.false_and]
theorem fixed_total (l : List UInt8) (hl : l.length ≤ 1048576) (d : Nat) : ∀ (k i : Nat) (x : Int), i ≤ l.length → l.length - i = d → d < k → ∃ n b, spec_l03Fixed.l0 k ⟨l.toArray⟩ x (i : Int) = some (n, b) := by
  induction d with
  | zero =>
    intro k i x hi hd hk
    obtain ⟨k, rfl⟩ : ∃ m, k = m + 1 := ⟨k - 1, by omega⟩
    simp only [spec_l03Fixed.l0]
    rw [if_neg (by rw [size_mk]; omega)]
    exact ⟨_, _, rfl⟩
  | succ d ih =>
    intro k i x hi hd hk
    obtain ⟨k, rfl⟩ : ∃ m, k = m + 1 := ⟨k - 1, by omega⟩
    have hlt : i < l.length := by omega
    have hw : wrap64 ((i : Int) + 1) = ((i + 1 : Nat) : Int) := by unfold wrap64; omega
    simp only [spec_l03Fixed.l0]
    rw [if_pos (by rw [size_mk]; omega), if_pos (by omega), bt_mk l i hlt, digit_eq, hw]
    simp only [Option.bind_some]
    cases isDig l[i] with
    | false => exact ⟨0, false, by simp⟩
    | true => simp only [if_true]; exact ih k (i + 1) _ (by omega) (by omega) (by omega)
theorem fixed_six (l : List UInt8) (hl : l.length ≤ 6) (ha : l.all isDig = true) (d : Nat) : ∀ (k i a : Nat), i ≤ l.length → l.length - i = d → d < k → a < 10 ^ i → spec_l03Fixed.l0 k ⟨l.toArray⟩ (a : Int) (i : Int) = some ((dval a (l.drop i) : Int), true) := by
  induction d with
  | zero =>
    intro k i a hi hd hk _
    obtain ⟨k, rfl⟩ : ∃ m, k = m + 1 := ⟨k - 1, by omega⟩
    simp only [spec_l03Fixed.l0]
    rw [if_neg (by rw [size_mk]; omega), List.drop_of_length_le (by omega)]
    rfl
  | succ d ih =>
    intro k i a hi hd hk ha2
    obtain ⟨k, rfl⟩ : ∃ m, k = m + 1 := ⟨k - 1, by omega⟩
    have hlt : i < l.length := by omega
    have hp : 10 ^ i ≤ 100000 := by have := Nat.pow_le_pow_right (n := 10) (by decide) (show i ≤ 5 by omega); simpa using this
    have hps : 10 ^ (i + 1) = 10 ^ i * 10 := Nat.pow_succ ..
    have hdr := List.drop_eq_getElem_cons hlt
    have hc : isDig l[i] = true := List.all_eq_true.1 ha _ (List.getElem_mem hlt)
    simp only [spec_l03Fixed.l0]
    rw [if_pos (by rw [size_mk]; omega), if_pos (by omega), bt_mk l i hlt, digit_eq, hdr]
    generalize l[i] = c at hc ⊢
    have hc1 : 48 ≤ c.toNat ∧ c.toNat ≤ 57 := by simp [isDig] at hc; omega
    rw [hc]
    simp only [Option.bind_some, if_true]
    have hx : a * 10 + (c.toNat - 48) < 10 ^ (i + 1) := by rw [hps]; omega
    have ih' := ih k (i + 1) (a * 10 + (c.toNat - 48)) (by omega) (by omega) (by omega) hx
    have a5 : a < 100000 := by omega
    clear ih hx hps hp ha2
    have e1 : wrap64 ((wrap64 (10 * (a : Int))) + ((((c.toNat : Nat) : Int) - 48) % 256)) = ((a * 10 + (c.toNat - 48) : Nat) : Int) := by
      clear ih'
      rw [wrap_id (10 * (a : Int)) (by omega) (by omega), wrap_id (10 * (a : Int) + ((((c.toNat : Nat) : Int) - 48) % 256)) (by omega) (by omega)]
      omega
    have e2 : wrap64 ((i : Int) + 1) = ((i + 1 : Nat) : Int) := by clear e1; rw [wrap_id ((i : Int) + 1) (by omega) (by omega)]; omega
    rw [e1, e2, ih', dval_cons]
theorem fixed_fw (u : Nat) (hu : u < 1000000) (k : Nat) (hk : 7 ≤ k) : spec_l03Fixed.f k ⟨(fw 6 u).toArray⟩ = some ((u : Int), true) := by
  obtain ⟨h1, h2⟩ := fw_dig 6 u
  have h := fixed_six (fw 6 u) (by rw [fw_length]; omega) h1 6 k 0 0 (by omega) (by rw [fw_length]) (by omega) (by simp)
  rw [show ((0 : Nat) : Int) = 0 from rfl, List.drop_zero, h2, Nat.mod_eq_of_lt (by simpa using hu)] at h
  exact h
def preB (a : Int) : List UInt8 := if a = 0 then [114, 97, 119] else if a = 1 then [116, 49] else [116, 50]
theorem pre3_eq (a : Int) : pre3 a = preB a ++ [47] := by
  unfold pre3 preB
  split
  · rfl
  · split <;> rfl
theorem key_pieces (a b c : Int) : pieces 47 (keyB a b c).data.toList = [preB a, fw 6 b.toNat ++ [45] ++ fw 6 c.toNat] := by
  have e : (keyB a b c).data.toList = preB a ++ 47 :: (fw 6 b.toNat ++ [45] ++ fw 6 c.toNat) := by
    show pre3 a ++ fw 6 b.toNat ++ [45] ++ fw 6 c.toNat = _
    rw [pre3_eq]
    simp
  have h1 : (47 : UInt8) ∉ preB a := by
    unfold preB
    split
    · decide
    · split <;> decide
  have h2 : (47 : UInt8) ∉ fw 6 b.toNat ++ [45] ++ fw 6 c.toNat := by
    simp only [List.mem_append, List.mem_singleton, not_or]
    exact ⟨⟨fw_not 47 rfl _ _, by decide⟩, fw_not 47 rfl _ _⟩
  rw [e, pieces_app 47 _ _ h1, pieces_none 47 _ h2]
theorem extract_six (l : List UInt8) : (⟨l.toArray⟩ : ByteArray).extract 0 6 = ⟨(l.take 6).toArray⟩ := extract_take l 6
theorem spec_key_at (s : ByteArray) (x y : List UInt8) (hs : s.size ≤ 1048576) (hp : pieces 47 s.data.toList = [x, y]) (h13 : y.length = 13) (h6 : y[6]'(by omega) = 45) (k : Nat) (hk : s.size + 40 < k) (n1 n2 : Int) (b1 b2 : Bool)
    (e1 : spec_l03Fixed.f k ⟨(y.take 6).toArray⟩ = some (n1, b1)) (e2 : spec_l03Fixed.f k ⟨(y.drop 7).toArray⟩ = some (n2, b2)) : ∃ t : Int, t = (if x = [116, 49] then 1 else if x = [116, 50] then 2 else 0) ∧
    spec_l03ToKey.f (k + 1) s = (if b1 = true then if b2 = true then if ((0 ≤ t ∧ t ≤ 2) ∧ (0 ≤ n1 ∧ n1 ≤ 999999) ∧ (0 ≤ n2 ∧ n2 ≤ 999999)) ∧ s = keyB t n1 n2 then some (t, n1, n2, true) else some (0, 0, 0, false) else some (0, 0, 0, false) else some (0, 0, 0, false)) := by
  refine ⟨_, rfl, ?_⟩
  unfold spec_l03ToKey.f
  have hc := cut_eq s 47 hs (k + 1) (by omega)
  have hc2 : (((47 : UInt8).toNat : Nat) : Int) = 47 := rfl
  rw [hc2] at hc
  rw [hc, hp]
  simp only [Option.bind_some]
  have g0 : rdOf ByteArray.empty (mkP [x, y]) 0 = ⟨x.toArray⟩ := rfl
  have g1 : rdOf ByteArray.empty (mkP [x, y]) 1 = ⟨y.toArray⟩ := rfl
  have gl : ((mkP [x, y]).length : Int) = 2 := rfl
  have gs : ((⟨y.toArray⟩ : ByteArray).size : Int) = 13 := by rw [size_mk, h13]; rfl
  have gb : bt ⟨y.toArray⟩ 6 = 45 := by
    have := bt_mk y 6 (by omega)
    rw [show ((6 : Nat) : Int) = 6 from rfl] at this
    rw [this, h6]; rfl
  rw [gl, g1, gs, gb, if_pos (by decide), if_pos (by decide), if_pos (by decide), if_pos (by decide)]
  simp only [spec_l03ToKey.j0, gl, g0, g1, gs]
  rw [if_neg (by decide), if_pos (by decide)]
  have hx1 : spec_l01Bit.f ((⟨x.toArray⟩ : ByteArray).toList == ([116, 49] : List UInt8)) = some (if x = [116, 49] then 1 else 0) := by
    unfold spec_l01Bit.f
    rw [ByteArray.toList_mk]
    by_cases h : x = [116, 49] <;> simp [h]
  have hx2 : spec_l01Bit.f ((⟨x.toArray⟩ : ByteArray).toList == ([116, 50] : List UInt8)) = some (if x = [116, 50] then 1 else 0) := by
    unfold spec_l01Bit.f
    rw [ByteArray.toList_mk]
    by_cases h : x = [116, 50] <;> simp [h]
  have ex7 : (⟨y.toArray⟩ : ByteArray).extract 7 (⟨y.toArray⟩ : ByteArray).size = ⟨(y.drop 7).toArray⟩ := extract_mk y 7
  rw [hx1, hx2, extract_six, ex7]
  simp only [Option.bind_some]
  rw [if_pos (by decide), if_pos (by decide), if_pos (by decide), e1]
  simp only [Option.bind_some]
  rw [if_pos (by decide), e2]
  simp only [Option.bind_some]
  have ht : wrap64 ((if x = [116, 49] then (1 : Int) else 0) + wrap64 (2 * (if x = [116, 50] then (1 : Int) else 0))) = (if x = [116, 49] then 1 else if x = [116, 50] then 2 else 0) := by
    by_cases h1 : x = [116, 49]
    · subst h1; rw [if_pos rfl, if_neg (by decide), if_pos rfl]; unfold wrap64; omega
    · rw [if_neg h1, if_neg h1]
      by_cases h2 : x = [116, 50]
      · rw [if_pos h2, if_pos h2]; unfold wrap64; omega
      · rw [if_neg h2, if_neg h2]; unfold wrap64; omega
  rw [ht]
  generalize (if x = [116, 49] then (1 : Int) else if x = [116, 50] then 2 else 0) = t
  cases b1 with
  | false => simp
  | true =>
    cases b2 with
    | false => simp
    | true =>
      simp only [if_true]
      obtain ⟨r, k1, k2⟩ := keyok_eq t n1 n2
      rw [k1]
      simp only [Option.bind_some]
      cases r with
      | false =>
        have : ¬ ((0 ≤ t ∧ t ≤ 2) ∧ (0 ≤ n1 ∧ n1 ≤ 999999) ∧ (0 ≤ n2 ∧ n2 ≤ 999999)) := fun h => by have := k2.2 h; cases this
        simp only [Bool.false_eq_true, if_false]
        rw [if_neg (fun h => this h.1)]
      | true =>
        have hr := k2.1 rfl
        simp only [if_true]
        rw [key_spec t n1 n2 hr.1 hr.2.1 hr.2.2 k (by omega)]
        simp only [Option.bind_some]
        by_cases he : (keyB t n1 n2).toList = s.toList
        · have hs2 : s = keyB t n1 n2 := by
            rw [ByteArray.toList_eq, ByteArray.toList_eq] at he
            rw [← mk_data s, ← he, mk_data]
          rw [if_pos he, if_pos ⟨hr, hs2⟩]
        · rw [if_neg he, if_neg (fun h => he (by rw [← h.2]))]
theorem spec_key_none (s : ByteArray) (hs : s.size ≤ 1048576) (k : Nat) (hk : s.size + 40 < k) (h : ∀ x y : List UInt8, pieces 47 s.data.toList = [x, y] → ∀ h13 : y.length = 13, y[6]'(by omega) ≠ 45) : spec_l03ToKey.f (k + 1) s = some (0, 0, 0, false) := by
  unfold spec_l03ToKey.f
  have hc := cut_eq s 47 hs (k + 1) (by omega)
  have hc2 : (((47 : UInt8).toNat : Nat) : Int) = 47 := rfl
  rw [hc2] at hc
  rw [hc]
  simp only [Option.bind_some]
  have hj : ∀ L, spec_l03ToKey.j0 (k + 1) s L true = some (0, 0, 0, false) := fun L => by simp only [spec_l03ToKey.j0]; rw [if_pos trivial]
  by_cases h2 : (pieces 47 s.data.toList).length = 2
  · obtain ⟨x, y, hp⟩ : ∃ x y, pieces 47 s.data.toList = [x, y] := by
      match hq : pieces 47 s.data.toList with
      | [x, y] => exact ⟨x, y, rfl⟩
      | [] => rw [hq] at h2; simp at h2
      | [_] => rw [hq] at h2; simp at h2
      | _ :: _ :: _ :: _ => rw [hq] at h2; simp at h2
    rw [hp]
    have g1 : rdOf ByteArray.empty (mkP [x, y]) 1 = ⟨y.toArray⟩ := rfl
    have gl : ((mkP [x, y]).length : Int) = 2 := rfl
    rw [gl, g1, if_pos rfl, if_pos (by decide), size_mk]
    by_cases h13 : y.length = 13
    · rw [if_pos (by omega), if_pos (by omega)]
      have hb := bt_mk y 6 (by omega)
      rw [show ((6 : Nat) : Int) = 6 from rfl] at hb
      have hn := h x y hp h13
      have : (bt ⟨y.toArray⟩ 6 != 45) = true := by
        rw [hb, bne_iff_ne]
        intro e
        apply hn
        apply UInt8.toNat_inj.1
        show _ = 45
        omega
      rw [this, hj]
    · rw [if_neg (by omega), hj]
  · have gl : ((mkP (pieces 47 s.data.toList)).length : Int) = ((pieces 47 s.data.toList).length : Int) := by unfold mkP; rw [List.length_map]
    rw [gl, if_neg (by omega), hj]
theorem spec_key_T (s : ByteArray) (hs : s.size ≤ 1048576) (k : Nat) (hk : s.size + 40 < k) : ∃ a b c q, spec_l03ToKey.f (k + 1) s = some (a, b, c, q) ∧ (q = true → isKey s a b c) := by
  by_cases h : ∀ x y : List UInt8, pieces 47 s.data.toList = [x, y] → ∀ h13 : y.length = 13, y[6]'(by omega) ≠ 45
  · exact ⟨0, 0, 0, false, spec_key_none s hs k hk h, by simp⟩
  · simp only [Classical.not_forall, Classical.not_not] at h
    obtain ⟨x, y, hp, h13, h6⟩ := h
    obtain ⟨n1, b1, e1⟩ := fixed_total (y.take 6) (by rw [List.length_take]; omega) (y.take 6).length k 0 0 (by omega) (by omega) (by rw [List.length_take]; omega)
    obtain ⟨n2, b2, e2⟩ := fixed_total (y.drop 7) (by rw [List.length_drop]; omega) (y.drop 7).length k 0 0 (by omega) (by omega) (by rw [List.length_drop]; omega)
    obtain ⟨t, _, ht⟩ := spec_key_at s x y hs hp h13 h6 k hk n1 n2 b1 b2 e1 e2
    rw [ht]
    split
    · split
      · split
        · rename_i hr
          exact ⟨_, _, _, _, rfl, fun _ => ⟨hr.1.1, hr.1.2.1, hr.1.2.2, hr.2⟩⟩
        · exact ⟨_, _, _, _, rfl, by simp⟩
      · exact ⟨_, _, _, _, rfl, by simp⟩
    · exact ⟨_, _, _, _, rfl, by simp⟩
theorem keyB_size (a b c : Int) : (keyB a b c).size ≤ 17 := by
  show ((pre3 a ++ fw 6 b.toNat ++ [45] ++ fw 6 c.toNat).toArray).size ≤ 17
  rw [List.size_toArray]
  simp only [List.length_append, fw_length, List.length_singleton]
  have : (pre3 a).length ≤ 4 := by
    unfold pre3
    split
    · decide
    · split <;> decide
  omega
theorem spec_key_C (a b c : Int) (h1 : 0 ≤ a ∧ a ≤ 2) (h2 : 0 ≤ b ∧ b ≤ 999999) (h3 : 0 ≤ c ∧ c ≤ 999999) (k : Nat) (hk : 60 < k) : spec_l03ToKey.f (k + 1) (keyB a b c) = some (a, b, c, true) := by
  have hsz := keyB_size a b c
  have hp := key_pieces a b c
  have t6 : (fw 6 b.toNat ++ [45] ++ fw 6 c.toNat).take 6 = fw 6 b.toNat := by
    rw [List.append_assoc, List.take_left' (fw_length 6 _)]
  have d7 : (fw 6 b.toNat ++ [45] ++ fw 6 c.toNat).drop 7 = fw 6 c.toNat := List.drop_left' (by simp [fw_length])
  obtain ⟨t, ht, hk2⟩ := spec_key_at (keyB a b c) _ _ (by omega) hp (by simp [fw_length]) (by rw [List.getElem_append_left (by simp [fw_length]), List.getElem_append_right (by simp [fw_length])]; simp [fw_length]) k (by omega) b c true true
    (by rw [t6, fixed_fw b.toNat (by omega) k (by omega)]; congr 1; rw [Int.toNat_of_nonneg h2.1]) (by rw [d7, fixed_fw c.toNat (by omega) k (by omega)]; congr 1; rw [Int.toNat_of_nonneg h3.1])
  have hta : t = a := by
    rw [ht]
    have : a = 0 ∨ a = 1 ∨ a = 2 := by omega
    rcases this with rfl | rfl | rfl <;> rfl
  rw [hk2, hta]
  simp only [if_true]
  rw [if_pos ⟨⟨h1, h2, h3⟩, trivial⟩]
theorem readSix_T (s : ByteArray) (hs : s.size ≤ 1048576) : ∃ n q, impl_readSix.f s = some (n, q) ∧ (q = true → (0 ≤ n ∧ n ≤ 999999) ∧ s = s6 n) := by
  unfold impl_readSix.f
  rw [if_pos (by omega)]
  split
  · rename_i v _
    split
    · rename_i hv
      rw [six_eq v hv.1 hv.2]
      simp only [Option.bind_some]
      refine ⟨v, _, rfl, fun h => ⟨hv, ?_⟩⟩
      have h := beq_iff_eq.1 h
      rw [ByteArray.toList_eq, ByteArray.toList_eq] at h
      rw [← mk_data s, ← h, mk_data]
    · exact ⟨_, _, rfl, by simp⟩
  · exact ⟨_, _, rfl, by simp⟩
  · exact ⟨_, _, rfl, by simp⟩
theorem readSix_C (n : Int) (h0 : 0 ≤ n) (h1 : n ≤ 999999) : impl_readSix.f (s6 n) = some (n, true) := by
  unfold impl_readSix.f
  have hz := s6_size n
  rw [if_pos (by omega)]
  have ha : Lib.atoiAll (s6 n).data.toList = .ok n := by
    show Lib.atoiAll (fw 6 n.toNat) = _
    obtain ⟨i1, i2⟩ := fw_dig 6 n.toNat
    have hlt : n.toNat < 1000000 := by omega
    rw [Nat.mod_eq_of_lt (by simpa using hlt)] at i2
    have hl := fw_length 6 n.toNat
    cases hd : fw 6 n.toNat with
    | nil => rw [hd] at hl; simp at hl
    | cons c r =>
      rw [hd] at i1 i2
      have hc : 48 ≤ c.toNat := by rw [List.all_cons, Bool.and_eq_true] at i1; have := i1.1; simp [isDig] at this; omega
      have hp : Lib.parseMag (c :: r) = .ok n.toNat := by
        unfold Lib.parseMag
        rw [if_neg (by simp), parse_ok _ 0 i1 (by rw [i2]; omega), i2]
      rw [Lib.atoiAll_plain c r (by omega) (by omega), hp]
      unfold Lib.signless
      simp only
      rw [if_neg (by omega), Int.toNat_of_nonneg h0]
  rw [ha]
  simp only
  rw [if_pos ⟨h0, h1⟩, six_eq n h0 h1]
  simp
def pres : List ByteArray := [(⟨#[114, 97, 119, 47]⟩ : ByteArray), (⟨#[116, 49, 47]⟩ : ByteArray), (⟨#[116, 50, 47]⟩ : ByteArray)]
theorem pres_at (a : Int) (h : 0 ≤ a ∧ a ≤ 2) : rdOf ByteArray.empty pres a = ⟨(pre3 a).toArray⟩ := by
  have : a = 0 ∨ a = 1 ∨ a = 2 := by omega
  rcases this with rfl | rfl | rfl <;> rfl
theorem impl_key_step (s : ByteArray) (hs : s.size ≤ 1048576) (i : Int) (hi : 0 ≤ i ∧ i ≤ 2) (k : Nat) :
    (∃ b c, impl_readDataKey.l0 (k + 2) s pres 3 i = some (i, b, c, true) ∧ isKey s i b c) ∨ (impl_readDataKey.l0 (k + 2) s pres 3 i = impl_readDataKey.l0 k s pres 3 (i + 1) ∧ ∀ b c, ¬ isKey s i b c) := by
  have hw : wrap64 (i + 1) = i + 1 := by rw [wrap_id (i + 1) (by omega) (by omega)]
  have hl3 : ((pres.length : Nat) : Int) = 3 := rfl
  simp only [impl_readDataKey.l0]
  rw [if_pos (by omega), if_pos (by omega), hl3, if_pos (by omega), pres_at i hi]
  unfold strings_CutPrefix.f
  simp only [Option.bind_some]
  have hkd : ∀ b c, (keyB i b c).data.toList = pre3 i ++ (fw 6 b.toNat ++ [45] ++ fw 6 c.toNat) := fun b c => by
    show pre3 i ++ fw 6 b.toNat ++ [45] ++ fw 6 c.toNat = _
    simp
  have hpre : ∀ r, Lib.hasPrefix (pre3 i ++ r) (pre3 i) = true ∧ Lib.trimPrefix (pre3 i ++ r) (pre3 i) = r := fun r => by
    have h1 : Lib.hasPrefix (pre3 i ++ r) (pre3 i) = true := by unfold Lib.hasPrefix; rw [List.isPrefixOf_iff_prefix]; exact List.prefix_append _ _
    refine ⟨h1, ?_⟩
    unfold Lib.trimPrefix
    rw [if_pos h1, List.drop_left' rfl]
  by_cases hp : Lib.hasPrefix s.data.toList (pre3 i) = true
  · obtain ⟨r, hr⟩ : ∃ r, s.data.toList = pre3 i ++ r := by
      unfold Lib.hasPrefix at hp
      rw [List.isPrefixOf_iff_prefix] at hp
      obtain ⟨r, hr⟩ := hp
      exact ⟨r, hr.symm⟩
    rw [hr, (hpre r).1, (hpre r).2, if_pos rfl, size_mk]
    have hrl : r.length ≤ 1048576 := by
      have : s.size = s.data.toList.length := by rw [Array.length_toList]; rfl
      rw [hr, List.length_append] at this
      omega
    have hno : ∀ q : Bool, (∀ b c, ¬ isKey s i b c) → q = false → impl_readDataKey.j1 (k + 1) s i ⟨r.toArray⟩ pres 3 i q = impl_readDataKey.l0 k s pres 3 (i + 1) := fun q _ hq => by
      subst hq
      simp only [impl_readDataKey.j1]
      rw [if_neg (by simp), hw]
    by_cases h13 : r.length = 13
    · rw [if_pos (by omega), if_pos (by omega)]
      have hb := bt_mk r 6 (by omega)
      rw [show ((6 : Nat) : Int) = 6 from rfl] at hb
      rw [hb]
      by_cases h6 : r[6]'(by omega) = 45
      · have : ((((r[6]'(by omega)).toNat : Nat) : Int) == 45) = true := by rw [h6]; rfl
        rw [this]
        simp only [impl_readDataKey.j1]
        have ex7 : (⟨r.toArray⟩ : ByteArray).extract 7 (⟨r.toArray⟩ : ByteArray).size = ⟨(r.drop 7).toArray⟩ := extract_mk r 7
        rw [if_pos trivial, if_pos (by decide), if_pos (by rw [size_mk]; omega), extract_six, ex7]
        obtain ⟨n1, q1, f1, g1⟩ := readSix_T ⟨(r.take 6).toArray⟩ (by rw [size_mk, List.length_take]; omega)
        obtain ⟨n2, q2, f2, g2⟩ := readSix_T ⟨(r.drop 7).toArray⟩ (by rw [size_mk, List.length_drop]; omega)
        rw [f1]
        simp only [Option.bind_some]
        rw [if_pos (by rw [size_mk]; omega), f2]
        simp only [Option.bind_some]
        have hback : ∀ b c, isKey s i b c → q1 = true ∧ q2 = true := fun b c hk => by
          obtain ⟨_, hb2, hc2, hs2⟩ := hk
          have hrr : r = fw 6 b.toNat ++ [45] ++ fw 6 c.toNat := by
            have := hkd b c
            rw [← hs2, hr] at this
            exact List.append_cancel_left this
          have t6 : r.take 6 = fw 6 b.toNat := by rw [hrr, List.append_assoc, List.take_left' (fw_length 6 _)]
          have d7 : r.drop 7 = fw 6 c.toNat := by rw [hrr]; exact List.drop_left' (by simp [fw_length])
          have c1 := readSix_C b hb2.1 hb2.2
          have c2 := readSix_C c hc2.1 hc2.2
          unfold s6 at c1 c2
          rw [t6, c1] at f1
          rw [d7, c2] at f2
          obtain ⟨_, e1⟩ := Prod.mk.inj (Option.some.inj f1)
          obtain ⟨_, e2⟩ := Prod.mk.inj (Option.some.inj f2)
          exact ⟨e1.symm, e2.symm⟩
        cases q1 with
        | false => exact .inr ⟨by simp [hw], fun b c hk => by have := (hback b c hk).1; cases this⟩
        | true =>
          cases q2 with
          | false => exact .inr ⟨by simp [hw], fun b c hk => by have := (hback b c hk).2; cases this⟩
          | true =>
            refine .inl ⟨n1, n2, by simp, hi, (g1 rfl).1, (g2 rfl).1, ?_⟩
            have e1 : r.take 6 = fw 6 n1.toNat := by
              have := congrArg (fun b : ByteArray => b.data.toList) (g1 rfl).2
              simpa [s6] using this
            have e2 : r.drop 7 = fw 6 n2.toNat := by
              have := congrArg (fun b : ByteArray => b.data.toList) (g2 rfl).2
              simpa [s6] using this
            have hrr : r = fw 6 n1.toNat ++ [45] ++ fw 6 n2.toNat := by
              rw [← e1, ← e2, ← h6]
              have hd := List.drop_eq_getElem_cons (show 6 < r.length by omega)
              rw [List.append_assoc, List.singleton_append, ← hd, List.take_append_drop]
            rw [← mk_data s, hr, hrr, ← hkd n1 n2, mk_data]
      · have hq : ((((r[6]'(by omega)).toNat : Nat) : Int) == 45) = false := by
          rw [beq_eq_false_iff_ne]
          intro e
          apply h6
          apply UInt8.toNat_inj.1
          show _ = 45
          omega
        have hn : ∀ b c, ¬ isKey s i b c := fun b c hk => by
          apply h6
          have hrr : r = fw 6 b.toNat ++ [45] ++ fw 6 c.toNat := by
            have := hkd b c
            rw [← hk.2.2.2, hr] at this
            exact List.append_cancel_left this
          subst hrr
          rw [List.getElem_append_left (by simp [fw_length]), List.getElem_append_right (by simp [fw_length])]
          simp [fw_length]
        exact .inr ⟨by rw [hq, hno false hn rfl], hn⟩
    · have hn : ∀ b c, ¬ isKey s i b c := fun b c hk => by
        apply h13
        have hrr : r = fw 6 b.toNat ++ [45] ++ fw 6 c.toNat := by
          have := hkd b c
          rw [← hk.2.2.2, hr] at this
          exact List.append_cancel_left this
        rw [hrr]
        simp [fw_length]
      rw [if_neg (by omega)]
      exact .inr ⟨hno false hn rfl, hn⟩
  · have hp0 : Lib.hasPrefix s.data.toList (pre3 i) = false := by simpa using hp
    rw [hp0]
    simp only [Bool.false_eq_true, if_false, impl_readDataKey.j1]
    refine .inr ⟨by rw [hw], fun b c hk => hp ?_⟩
    rw [hk.2.2.2, hkd b c]
    exact (hpre _).1
theorem key_one (s : ByteArray) (a b c a' b' c' : Int) (h : isKey s a b c) (h' : isKey s a' b' c') : a = a' ∧ b = b' ∧ c = c' := by
  have e := spec_key_C a b c h.1 h.2.1 h.2.2.1 100 (by omega)
  have e' := spec_key_C a' b' c' h'.1 h'.2.1 h'.2.2.1 100 (by omega)
  rw [← h.2.2.2] at e
  rw [← h'.2.2.2, e] at e'
  simpa using e'
/-- reading a data key: both tell the same -/
theorem key_same (s : ByteArray) (hs : s.size ≤ 1048576) (k : Nat) (hk : s.size + 62 < k) : ∃ a b c q, spec_l03ToKey.f k s = some (a, b, c, q) ∧ (∃ a' b' c', impl_readDataKey.f k s = some (a', b', c', q) ∧ (q = true → a = a' ∧ b = b' ∧ c = c')) ∧ (q = true → isKey s a b c) := by
  obtain ⟨k, rfl⟩ : ∃ m, k = m + 8 := ⟨k - 8, by omega⟩
  obtain ⟨a, b, c, q, h1, h2⟩ := spec_key_T s hs (k + 7) (by omega)
  have hi : impl_readDataKey.f (k + 8) s = impl_readDataKey.l0 (k + 8) s pres 3 0 := by
    unfold impl_readDataKey.f impl_dataPrefixes.f
    rfl
  refine ⟨a, b, c, q, h1, ?_, h2⟩
  rw [hi]
  have hfound : ∀ i b' c', isKey s i b' c' → q = true ∧ a = i ∧ b = b' ∧ c = c' := fun i b' c' hk => by
    have e := spec_key_C i b' c' hk.1 hk.2.1 hk.2.2.1 (k + 7) (by omega)
    rw [← hk.2.2.2, h1] at e
    simp only [Option.some.injEq, Prod.mk.injEq] at e
    exact ⟨e.2.2.2, e.1, e.2.1, e.2.2.1⟩
  have hend : impl_readDataKey.l0 (k + 2) s pres 3 3 = some (0, 0, 0, false) := by
    simp only [impl_readDataKey.l0]
    rw [if_neg (by decide)]
  rcases impl_key_step s hs 0 (by omega) (k + 6) with ⟨b', c', e, hk0⟩ | ⟨e, n0⟩
  · obtain ⟨hq, _, _, _⟩ := hfound 0 b' c' hk0
    subst hq
    exact ⟨0, b', c', e, fun _ => (hfound 0 b' c' hk0).2⟩
  · rw [e]
    rcases impl_key_step s hs (0 + 1) (by omega) (k + 4) with ⟨b', c', e, hk0⟩ | ⟨e, n1⟩
    · obtain ⟨hq, _, _, _⟩ := hfound _ b' c' hk0
      subst hq
      exact ⟨_, b', c', e, fun _ => (hfound _ b' c' hk0).2⟩
    · rw [e]
      rcases impl_key_step s hs (0 + 1 + 1) (by omega) (k + 2) with ⟨b', c', e, hk0⟩ | ⟨e, n2⟩
      · obtain ⟨hq, _, _, _⟩ := hfound _ b' c' hk0
        subst hq
        exact ⟨_, b', c', e, fun _ => (hfound _ b' c' hk0).2⟩
      · rw [e]
        have hq : q = false := by
          cases q with
          | false => rfl
          | true =>
            exfalso
            have hk0 := h2 rfl
            have : a = 0 ∨ a = 0 + 1 ∨ a = 0 + 1 + 1 := by have := hk0.1; omega
            rcases this with rfl | rfl | rfl
            · exact n0 _ _ hk0
            · exact n1 _ _ hk0
            · exact n2 _ _ hk0
        subst hq
        exact ⟨0, 0, 0, hend, by simp⟩
theorem range_s (a b : Int) : spec_l04Range.f a b = some (decide (0 ≤ a) && (decide (a ≤ b) && decide (b ≤ 100000))) := by
  unfold spec_l04Range.f
  simp only [in_eq, Option.bind_some]
  by_cases h1 : 0 ≤ a <;> by_cases h2 : a ≤ b <;> by_cases h3 : b ≤ 100000 <;> by_cases h4 : a ≤ 100000 <;> first | omega | simp [h1, h2, h3, h4]
theorem range_i (a b : Int) : impl_isRange.f a b = some (decide (0 ≤ a) && (decide (a ≤ b) && decide (b ≤ 100000))) := by
  unfold impl_isRange.f
  by_cases h1 : 0 ≤ a <;> by_cases h2 : a ≤ b <;> by_cases h3 : b ≤ 100000 <;> simp [h1, h2, h3]
theorem tier_entry (x0 x1 x2 x3 x4 : Int) (s : ByteArray) (lo : Int) (hs : s.size ≤ 1048576) (k : Nat) (hk : s.size + 62 < k) :
    ∃ r, impl_entryOK.f k x2 x3 x4 s = some r ∧ spec_l06Tiered.f k x0 x1 x2 x3 x4 s lo = some (r && decide (lo ≤ x2)) ∧ (r = true → 0 ≤ x2 ∧ ∃ a b c, isKey s a b c) := by
  obtain ⟨a, b, c, q, h1, ⟨a', b', c', h2, h3⟩, h4⟩ := key_same s hs k hk
  unfold impl_entryOK.f spec_l06Tiered.f
  rw [h1, h2]
  simp only [Option.bind_some, in_eq, range_s, range_i]
  cases q with
  | false => exact ⟨false, by simp, by simp, by simp⟩
  | true =>
    obtain ⟨rfl, rfl, rfl⟩ := h3 rfl
    have ht := (h4 rfl).1
    by_cases ha : a = x2
    · subst ha
      simp only [if_true]
      have h2 : decide (a ≤ 2) = true := decide_eq_true ht.2
      rw [h2, Bool.and_true]
      have hk2 : 0 ≤ a ∧ ∃ a b c, isKey s a b c := ⟨ht.1, _, _, _, h4 rfl⟩
      cases (decide (0 ≤ x3) && (decide (x3 ≤ x4) && decide (x4 ≤ 100000))) <;> cases decide (x3 < x4) <;> cases decide (lo ≤ a) <;> simp <;> exact hk2
    · simp only [if_true, if_neg ha]
      exact ⟨false, rfl, rfl, by simp⟩
theorem rec_j (x3 : Bool) (a b c d e : Int) (s : ByteArray) (hs : s.size ≤ 1048576) (k : Nat) (hk : s.size + 62 < k) :
    ∃ r, spec_RecordOK.j0 (k + 1) x3 a b c d e s = some r ∧ impl_RecordOK.j0 (k + 1) x3 a b c d e s = some r ∧ (r = true → s.data.toList = [] ∨ ∃ a b c, isKey s a b c) := by
  simp only [spec_RecordOK.j0, impl_RecordOK.j0, impl_Record_entry.f, Option.bind_some, impl_isToken.f, in_eq, within_eq]
  obtain ⟨r0, i0, t0, p0⟩ := tier_entry a b c d e s 0 hs k hk
  obtain ⟨r1, i1, t1, p1⟩ := tier_entry a b c d e s 1 hs k hk
  rw [i0, t0, t1]
  simp only [Option.bind_some]
  by_cases h1 : a = 1
  · simp only [if_pos h1]
    by_cases hb : b = 0
    · by_cases hc : c = 0
      · simp only [if_pos hb, if_pos hc]
        exact ⟨_, rfl, by cases r0 <;> simp; exact (p0 rfl).1, fun h => by rw [Bool.and_eq_true] at h; exact .inr (p0 h.1).2⟩
      · simp only [if_pos hb, if_neg hc]
        exact ⟨false, rfl, rfl, by simp⟩
    · simp only [if_neg hb]
      exact ⟨false, rfl, rfl, by simp⟩
  · simp only [if_neg h1]
    by_cases h2 : a = 2
    · simp only [if_pos h2]
      cases (decide (1 ≤ b) && decide (b ≤ 999999)) with
      | false => exact ⟨false, by simp, by simp, by simp⟩
      | true =>
        cases x3 with
        | false => exact ⟨false, by simp, by simp, by simp⟩
        | true => exact ⟨_, rfl, rfl, fun h => .inl (by have := beq_iff_eq.1 h; rw [ByteArray.toList_eq] at this; exact this)⟩
    · simp only [if_neg h2]
      by_cases h3 : a = 3
      · simp only [if_pos h3]
        cases (decide (1 ≤ b) && decide (b ≤ 999999)) with
        | false => exact ⟨false, by simp, by simp, by simp⟩
        | true =>
          have e : r0 = r1 := by rw [i0] at i1; exact Option.some.inj i1
          subst e
          simp only [if_true]
          by_cases hc : c > 0
          · rw [if_pos hc, decide_eq_true (show (1 : Int) ≤ c by omega), Bool.and_true]
            exact ⟨_, rfl, rfl, fun h => .inr (p1 h).2⟩
          · rw [if_neg hc, decide_eq_false (show ¬ (1 : Int) ≤ c by omega), Bool.and_false]
            exact ⟨false, rfl, rfl, by simp⟩
      · simp only [if_neg h3]
        by_cases h4 : a = 4
        · simp only [if_pos h4]
          cases (decide (1 ≤ b) && decide (b ≤ 999999)) with
          | false => exact ⟨false, by simp, by simp, by simp⟩
          | true =>
            simp only [if_true]
            exact ⟨_, rfl, by cases r0 <;> simp; exact (p0 rfl).1, fun h => by rw [Bool.and_eq_true] at h; exact .inr (p0 h.1).2⟩
        · simp only [if_neg h4]
          by_cases h5 : a = 5
          · simp only [if_pos h5]
            obtain ⟨ka, kb, kc, q, g1, ⟨ka', kb', kc', g2, _⟩, hk5⟩ := key_same s hs k hk
            rw [g1, g2]
            by_cases hb : b = 0 <;> cases x3 <;> simp [hb]
            exact fun h => .inr ⟨_, _, _, hk5 h⟩
          · simp only [if_neg h5]
            exact ⟨false, rfl, rfl, by simp⟩
theorem record_same (a b c d e : Int) (s : ByteArray) (hs : s.size ≤ 1048576) (k : Nat) (hk : s.size + 63 < k) :
    ∃ r, spec_RecordOK.f k a b c d e s = some r ∧ impl_RecordOK.f k a b c d e s = some r ∧ (r = true → s.data.toList = [] ∨ ∃ a b c, isKey s a b c) := by
  obtain ⟨k, rfl⟩ : ∃ m, k = m + 1 := ⟨k - 1, by omega⟩
  unfold spec_RecordOK.f impl_RecordOK.f
  split
  · split
    · exact rec_j _ a b c d e s hs k (by omega)
    · exact rec_j _ a b c d e s hs k (by omega)
  · exact rec_j _ a b c d e s hs k (by omega)
/-- whether an entry is right -/
def eB (x : S84) : Bool := impl_entryOK.f 1048700 x.f0 x.f1 x.f2 x.f3 == some true
theorem entry_mono (a b c : Int) (s : ByteArray) (k : Nat) (r : Bool) (h : impl_entryOK.f k a b c s = some r) (d : Nat) : impl_entryOK.f (k + d) a b c s = some r := by
  induction d with
  | zero => exact h
  | succ d ih => exact impl_entryOK.mono a b c s (k + d) r ih
theorem entry_at (x : S84) (hs : x.f3.size ≤ 1048576) (k : Nat) (hk : 1048700 ≤ k) : impl_entryOK.f k x.f0 x.f1 x.f2 x.f3 = some (eB x) ∧ spec_l06Tiered.f k 0 0 x.f0 x.f1 x.f2 x.f3 0 = some (eB x) := by
  obtain ⟨r0, g1, _, _⟩ := tier_entry 0 0 x.f0 x.f1 x.f2 x.f3 0 hs 1048700 (by omega)
  have e0 : eB x = r0 := by unfold eB; rw [g1]; cases r0 <;> rfl
  obtain ⟨d, rfl⟩ : ∃ d, k = 1048700 + d := ⟨k - 1048700, by omega⟩
  have g2 := entry_mono _ _ _ _ _ _ g1 d
  obtain ⟨r, g3, g4, g5⟩ := tier_entry 0 0 x.f0 x.f1 x.f2 x.f3 0 hs (1048700 + d) (by omega)
  rw [g2] at g3
  obtain rfl := Option.some.inj g3
  rw [e0]
  refine ⟨g2, ?_⟩
  rw [g4]
  cases r0 with
  | false => rfl
  | true => rw [decide_eq_true (g5 rfl).1]; rfl
theorem okE_at (x : S84) (hs : x.f3.size ≤ 1048576) (k : Nat) (hk : 1048700 ≤ k) : okE k x = some (eB x) := (entry_at x hs k hk).1
theorem itb (b c : Bool) : (if b = true then some c else some false) = some (b && c) := by cases b <;> rfl
theorem itn (b c : Bool) : (if b = true then some false else some c) = some (!b && c) := by cases b <;> rfl
theorem itp (p : Prop) [Decidable p] (c : Bool) : (if p then some c else some false) = some (decide p && c) := by by_cases h : p <;> simp [h]
theorem itq (p : Prop) [Decidable p] (c : Bool) : (if p then some false else some c) = some (!decide p && c) := by by_cases h : p <;> simp [h]
/-- the rest of what is asked of a worker -/
def wkB (p0 p1 p2 p3 p4 : Int) (rb ag : Bool) (n p10 : Int) : Bool :=
  (decide (0 ≤ p0) && decide (p0 ≤ 9)) && ((decide (0 ≤ p1) && decide (p1 ≤ 7)) && ((decide ((if p1 > 1 then 1 else 0) ≤ p2) && decide (p2 ≤ 999999)) && ((!(decide (4 ≤ p1) && decide (p1 ≤ 6)) || (rb && (decide (p4 = p2) && (decide (p3 = 3) || (decide (p1 = 6) && decide (p3 = 4)))))) && (ag && (decide (p10 ≤ 1000) && decide (n ≤ 300))))))
theorem itx (b c d : Bool) : (if b = true then some c else some d) = some (bif b then c else d) := by cases b <;> rfl
theorem ity (p : Prop) [Decidable p] (c d : Bool) : (if p then some c else some d) = some (bif decide p then c else d) := by by_cases h : p <;> simp [h]
theorem bit_eq (b : Bool) : spec_l01Bit.f b = some (if b = true then 1 else 0) := by
  unfold spec_l01Bit.f; cases b <;> rfl
theorem wk_tail (k : Nat) (l : List S84) (p0 p1 p2 p3 p4 p5 p6 p7 : Int) (s : ByteArray) (p10 p11 p12 p13 p14 p15 : Int) (rb : Bool) (hr : spec_RecordOK.f k p3 p4 p5 p6 p7 s = some rb) :
    spec_WorkerOK.l0 (k + 1) (l.length : Int) p0 p1 p2 p3 p4 p5 p6 p7 s l p10 p11 p12 p13 p14 p15 = some (wkB p0 p1 p2 p3 p4 rb (aggB p10 p11 p12 p13 p14 p15) (l.length : Int) p10) := by
  simp only [spec_WorkerOK.l0]
  rw [if_neg (by omega)]
  simp only [in_eq, spec_agg, bit_eq, hr, Option.bind_some, itb, itp, itx, ity, decide_eq_true_eq]
  unfold wkB
  generalize aggB p10 p11 p12 p13 p14 p15 = ag
  congr 1
  by_cases a1 : p4 = p2 <;> by_cases a2 : p3 = 3 <;> by_cases a3 : p1 = 6 <;> by_cases a4 : p3 = 4 <;> cases (decide (4 ≤ p1) && decide (p1 ≤ 6)) <;> cases rb <;> cases ag <;> simp [a1, a2, a3, a4]
theorem wk_loop (l : List S84) (hl : l.length ≤ 1048576) (hs : ∀ x ∈ l, x.f3.size ≤ 1048576) (p0 p1 p2 p3 p4 p5 p6 p7 : Int) (s : ByteArray) (p10 p11 p12 p13 p14 p15 : Int) (rb : Bool) (hr : ∀ k, 1048700 ≤ k → spec_RecordOK.f k p3 p4 p5 p6 p7 s = some rb) (d : Nat) : ∀ (k i : Nat), i ≤ l.length → l.length - i = d → d + 1048710 < k →
    spec_WorkerOK.l0 k (i : Int) p0 p1 p2 p3 p4 p5 p6 p7 s l p10 p11 p12 p13 p14 p15 = some (((l.drop i).all eB) && wkB p0 p1 p2 p3 p4 rb (aggB p10 p11 p12 p13 p14 p15) (l.length : Int) p10) := by
  induction d with
  | zero =>
    intro k i hi hd hk
    obtain ⟨k, rfl⟩ : ∃ m, k = m + 1 := ⟨k - 1, by omega⟩
    obtain rfl : i = l.length := by omega
    rw [wk_tail k l p0 p1 p2 p3 p4 p5 p6 p7 s p10 p11 p12 p13 p14 p15 rb (hr k (by omega)), List.drop_length]
    rfl
  | succ d ih =>
    intro k i hi hd hk
    obtain ⟨k, rfl⟩ : ∃ m, k = m + 1 := ⟨k - 1, by omega⟩
    have hlt : i < l.length := by omega
    have ih' := ih k (i + 1) (by omega) (by omega) (by omega)
    obtain ⟨_, h1⟩ := entry_at l[i] (hs _ (List.getElem_mem hlt)) k (by omega)
    simp only [spec_WorkerOK.l0]
    rw [if_pos (by omega), if_pos (by omega), rd84_at l i hlt, h1, cast_wrap hlt (by omega), ih', List.drop_eq_getElem_cons hlt, List.all_cons]
    simp only [Option.bind_some]
    rw [itb, Bool.and_assoc]
theorem wk_impl (l : List S84) (hl : l.length ≤ 1048576) (hs : ∀ x ∈ l, x.f3.size ≤ 1048576) (p0 p1 p2 p3 p4 p5 p6 p7 : Int) (s : ByteArray) (p10 p11 p12 p13 p14 p15 : Int) (rb : Bool) (k : Nat) (hk : 1048800 ≤ k) (hr : ∀ k, 1048700 ≤ k → impl_RecordOK.f k p3 p4 p5 p6 p7 s = some rb) :
    impl_WorkerOK.f k p0 p1 p2 p3 p4 p5 p6 p7 s l p10 p11 p12 p13 p14 p15 = some ((l.all eB) && wkB p0 p1 p2 p3 p4 rb (aggB p10 p11 p12 p13 p14 p15) (l.length : Int) p10) := by
  obtain ⟨k, rfl⟩ : ∃ m, k = m + 2 := ⟨k - 2, by omega⟩
  have hE : impl_Entry.f k l = some (l.all eB) := by
    unfold impl_Entry.f
    rw [if_pos ⟨by
      rw [List.all_eq_true]
      intro x hx
      rw [okE_at x (hs x hx) k (by omega)]
      rfl, by omega⟩]
    congr 1
    rw [Bool.eq_iff_iff, List.all_eq_true, List.all_eq_true]
    exact ⟨fun h x hx => by have := h x hx; rw [okE_at x (hs x hx) k (by omega)] at this; cases hq : eB x <;> simp [hq] at this ⊢, fun h x hx => by have := h x hx; rw [okE_at x (hs x hx) k (by omega), this]; rfl⟩
  have j1 : ∀ f, impl_WorkerOK.j1 (k + 1) f p0 p1 p2 p3 p4 p5 p6 p7 s l p10 p11 p12 p13 p14 p15 = some (!f && (decide ((l.length : Int) ≤ 300) && ((l.all eB) && (aggB p10 p11 p12 p13 p14 p15 && decide (p10 ≤ 1000))))) := by
    intro f
    simp only [impl_WorkerOK.j1, hE, impl_isGot.f, impl_agg, Option.bind_some, itb, itp, itn, Bool.decide_eq_true]
  have j0 : ∀ f, impl_WorkerOK.j0 (k + 2) f p0 p1 p2 p3 p4 p5 p6 p7 s l p10 p11 p12 p13 p14 p15 = some (!f && ((!(decide (4 ≤ p1) && decide (p1 ≤ 6)) || (rb && (decide (p4 = p2) && (decide (p3 = 3) || (decide (p1 = 6) && decide (p3 = 4)))))) && (decide ((l.length : Int) ≤ 300) && ((l.all eB) && (aggB p10 p11 p12 p13 p14 p15 && decide (p10 ≤ 1000)))))) := by
    intro f
    simp only [impl_WorkerOK.j0, within_eq, hr (k + 1) (by omega), j1, Option.bind_some]
    generalize (decide ((l.length : Int) ≤ 300) && ((l.all eB) && (aggB p10 p11 p12 p13 p14 p15 && decide (p10 ≤ 1000)))) = z
    by_cases a1 : p4 = p2 <;> by_cases a2 : p3 = 3 <;> by_cases a3 : p1 = 6 <;> by_cases a4 : p3 = 4 <;> cases (decide (4 ≤ p1) && decide (p1 ≤ 6)) <;> cases rb <;> cases f <;> simp [a1, a2, a3, a4]
  unfold impl_WorkerOK.f impl_isId.f wkB
  simp only [within_eq, j0, Option.bind_some]
  generalize (!(decide (4 ≤ p1) && decide (p1 ≤ 6)) || (rb && (decide (p4 = p2) && (decide (p3 = 3) || (decide (p1 = 6) && decide (p3 = 4)))))) = jb
  generalize aggB p10 p11 p12 p13 p14 p15 = ag
  generalize (l.all eB) = eb
  cases (decide (0 ≤ p0) && decide (p0 ≤ 9)) with
  | false => simp
  | true =>
    cases (decide (0 ≤ p1) && decide (p1 ≤ 7)) with
    | false => simp
    | true =>
      by_cases a1 : p1 > 1
      · by_cases a2 : 0 ≤ p2
        · by_cases a3 : p2 ≤ 999999
          · by_cases a4 : p2 = 0
            · subst a4
              simp [a1, show (2 : Int) ≤ p1 by omega]
            · have a5 : (1 : Int) ≤ p2 := by omega
              cases jb <;> cases ag <;> cases eb <;> simp [a1, a2, a3, a4, a5, show (2 : Int) ≤ p1 by omega, Bool.and_comm]
          · simp [a3]
        · have a5 : ¬ (1 : Int) ≤ p2 := by omega
          simp [a1, a2, a5]
      · by_cases a2 : 0 ≤ p2
        · by_cases a3 : p2 ≤ 999999
          · cases jb <;> cases ag <;> cases eb <;> simp [a1, a2, a3, show ¬ (2 : Int) ≤ p1 by omega, Bool.and_comm]
          · simp [a3]
        · simp [a1, a2]
theorem FnExactWorkerOK : laws_FnExactWorkerOK.Pure := by
  intro p0 p1 p2 p3 p4 p5 p6 p7 s a p10 p11 p12 p13 p14 p15 _ _ _ _ _ _ _ _ hs0 ⟨_, ha, sa⟩ _ _ _ _ _ _
  obtain ⟨k, hk⟩ : ∃ k : Nat, k = 4000000 := ⟨_, rfl⟩
  refine ⟨k, ?_⟩
  unfold laws_FnExactWorkerOK.f laws_szWorker.f laws_szRecord.f
  have hw : wrap64 (1048576 - (s.size : Int)) = 1048576 - (s.size : Int) := by rw [wrap_id _ (by omega) (by omega)]
  rw [hw]
  by_cases hss : 1048576 - (s.size : Int) < 0
  · simp [hss]
  have hsz : s.size ≤ 1048576 := by omega
  simp only [if_neg hss, Option.bind_some]
  obtain ⟨r1, s1, b1⟩ := szEntryS_tot a (fun x hx => (sa x hx).2.2.2) (1048576 - (s.size : Int)) (by omega) (by omega) (by omega) k (by omega)
  rw [s1]
  simp only [Option.bind_some]
  by_cases ca : r1 < 0
  · simp [ca]
  have b1 := b1 (by omega)
  have la : (a.map cvEntry).length = a.length := by simp
  have hs : ∀ x ∈ a.map cvEntry, x.f3.size ≤ 1048576 := fun x hx => by
    obtain ⟨y, hy, rfl⟩ := List.mem_map.1 hx
    have := b1.2.2 y hy
    show y.f3.size ≤ 1048576
    omega
  obtain ⟨rb, g1, g2, _⟩ := record_same p3 p4 p5 p6 p7 s hsz 1048700 (by omega)
  have hr1 : ∀ q, 1048700 ≤ q → spec_RecordOK.f q p3 p4 p5 p6 p7 s = some rb := by
    intro q hq
    obtain ⟨d, rfl⟩ : ∃ d, q = 1048700 + d := ⟨q - 1048700, by omega⟩
    clear hq
    induction d with
    | zero => exact g1
    | succ d ih => exact spec_RecordOK.mono p3 p4 p5 p6 p7 s (1048700 + d) _ ih
  have hr2 : ∀ q, 1048700 ≤ q → impl_RecordOK.f q p3 p4 p5 p6 p7 s = some rb := by
    intro q hq
    obtain ⟨d, rfl⟩ : ∃ d, q = 1048700 + d := ⟨q - 1048700, by omega⟩
    clear hq
    induction d with
    | zero => exact g2
    | succ d ih => exact impl_RecordOK.mono p3 p4 p5 p6 p7 s (1048700 + d) _ ih
  have h1 := wk_loop (a.map cvEntry) (by omega) hs p0 p1 p2 p3 p4 p5 p6 p7 s p10 p11 p12 p13 p14 p15 rb hr1 (a.map cvEntry).length k 0 (by omega) (by omega) (by omega)
  have h2 := wk_impl (a.map cvEntry) (by omega) hs p0 p1 p2 p3 p4 p5 p6 p7 s p10 p11 p12 p13 p14 p15 rb k (by omega) hr2
  have h1' : spec_WorkerOK.f k p0 p1 p2 p3 p4 p5 p6 p7 s (a.map cvEntry) p10 p11 p12 p13 p14 p15 = impl_WorkerOK.f k p0 p1 p2 p3 p4 p5 p6 p7 s (a.map cvEntry) p10 p11 p12 p13 p14 p15 := by
    rw [h2]
    exact h1
  rw [h2] at h1'
  generalize ((a.map cvEntry).all eB && wkB p0 p1 p2 p3 p4 rb (aggB p10 p11 p12 p13 p14 p15) ((a.map cvEntry).length : Int) p10) = q at h1' h2
  simp only [ca, if_false, Option.bind_some, laws_toWorker.f, laws_toRecord.f, toEntryS_eq a (by omega) k (by omega), laws_toAgg.f, h1', h2, bne_self_eq_false, Bool.false_eq_true, laws_eqWorker.f, laws_eqRecord.f, eqEntryS_same (a.map cvEntry) (by omega) k (by omega), eqAgg_same, if_true]

end Go.Proofs.YtleifhnoaaphmaaDoor.Pure
