/- The pure law of FnExactSamplesText: what the printed functions compute answers true for every input of the kinds and sizes that the statement gives. -/
import Derived.Test.YtbdhpmamlibmhaaDoorKinFnExactSamplesText
import Derived.Lib.ItoaLen
namespace Go.Proofs.YtbdhpmamlibmhaaDoor.Pure
open Go.RowKit Go.Proofs.YtbdhpmamlibmhaaDoorW.PrintWords Go.Proofs.YtbdhpmamlibmhaaDoorW.PrintLast Go.Proofs.YtbdhpmamlibmhaaDoor.XFnExactSamplesText
set_option linter.unusedSimpArgs false
set_option linter.unusedVariables false

-- BODY
theorem within_eq (a b c : Int) : impl_within.f a b c = some (decide (b ≤ a) && decide (a ≤ c)) := by
  unfold impl_within.f; by_cases h : b ≤ a <;> simp [h]
theorem in_eq (a b c : Int) : spec_l01In.f a b c = some (decide (b ≤ a) && decide (a ≤ c)) := by
  unfold spec_l01In.f; by_cases h : b ≤ a <;> simp [h]
theorem first2 (k : Nat) (b1 b2 : Bool) (c1 c2 : Int) : impl_first.f (k + 3) [anyB b1, anyI c1, anyB b2, anyI c2] = some (if b1 = true then c1 else if b2 = true then c2 else 0) := by
  have w1 : wrap64 1 = 1 := by unfold wrap64; omega
  have w2 : wrap64 2 = 2 := by unfold wrap64; omega
  have w3 : wrap64 3 = 3 := by unfold wrap64; omega
  have w4 : wrap64 4 = 4 := by unfold wrap64; omega
  have w5 : wrap64 5 = 5 := by unfold wrap64; omega
  cases b1 <;> cases b2 <;> simp [impl_first.f, impl_first.l0, w1, w2, w3, w4, w5, rdOf, anyAsB, anyAsI]
theorem first3 (k : Nat) (b1 b2 b3 : Bool) (c1 c2 c3 : Int) : impl_first.f (k + 4) [anyB b1, anyI c1, anyB b2, anyI c2, anyB b3, anyI c3] = some (if b1 = true then c1 else if b2 = true then c2 else if b3 = true then c3 else 0) := by
  have w1 : wrap64 1 = 1 := by unfold wrap64; omega
  have w2 : wrap64 2 = 2 := by unfold wrap64; omega
  have w3 : wrap64 3 = 3 := by unfold wrap64; omega
  have w4 : wrap64 4 = 4 := by unfold wrap64; omega
  have w5 : wrap64 5 = 5 := by unfold wrap64; omega
  have w6 : wrap64 6 = 6 := by unfold wrap64; omega
  have w7 : wrap64 7 = 7 := by unfold wrap64; omega
  cases b1 <;> cases b2 <;> cases b3 <;> simp [impl_first.f, impl_first.l0, w1, w2, w3, w4, w5, w6, w7, rdOf, anyAsB, anyAsI]
/-- list places, as the printed loops spell them -/
theorem cast_wrap {i n : Nat} (h : i < n) (hn : n ≤ 140737488351232) : wrap64 ((i : Int) + 1) = ((i + 1 : Nat) : Int) := by unfold wrap64; omega
theorem take_set_succ {α : Type} (l : List α) (i : Nat) (v : α) (h : i < l.length) : (l.set i v).take (i + 1) = l.take i ++ [v] := by
  rw [List.take_succ_eq_append_getElem (by simpa using h)]
  simp only [List.take_set, List.getElem_set_self]
  rw [List.set_eq_of_length_le (by simp; omega)]
theorem rd70_at (l : List S70) (i : Nat) (h : i < l.length) : rd_T70 l (i : Int) = l[i] := by
  unfold rd_T70; rw [Int.toNat_natCast, List.getD_eq_getElem?_getD, List.getElem?_eq_getElem h]; rfl
theorem rd72_at (l : List S72) (i : Nat) (h : i < l.length) : rd_T72 l (i : Int) = l[i] := by
  unfold rd_T72; rw [Int.toNat_natCast, List.getD_eq_getElem?_getD, List.getElem?_eq_getElem h]; rfl
def cvSample (x : S72) : S70 := ⟨x.f0, x.f1⟩
theorem toSampleS_loop (l : List S72) (hl : l.length ≤ 1048576) (d : Nat) : ∀ (k i : Nat) (x : List S70), x.length = l.length → i ≤ l.length → l.length - i = d → d < k →
    laws_toSampleS.l0 k l x (i : Int) = some (x.take i ++ (l.drop i).map cvSample) := by
  induction d with
  | zero =>
    intro k i x hx hi hd hk
    obtain ⟨k, rfl⟩ : ∃ m, k = m + 1 := ⟨k - 1, by omega⟩
    obtain rfl : i = l.length := by omega
    simp only [laws_toSampleS.l0]
    rw [if_neg (by omega), List.drop_length, List.map_nil, List.append_nil, ← hx, List.take_length]
  | succ d ih =>
    intro k i x hx hi hd hk
    obtain ⟨k, rfl⟩ : ∃ m, k = m + 1 := ⟨k - 1, by omega⟩
    have hlt : i < l.length := by omega
    simp only [laws_toSampleS.l0, laws_toSample.f, Option.bind_some]
    rw [if_pos (by omega), if_pos (by omega), if_pos (by omega), rd72_at l i hlt, cast_wrap hlt (by omega), ih k (i + 1) _ (by simpa using hx) (by omega) (by omega) (by omega), Int.toNat_natCast, take_set_succ _ _ _ (by omega),
      List.drop_eq_getElem_cons hlt, List.map_cons, List.append_assoc]
    rfl
theorem toSampleS_eq (l : List S72) (hl : l.length ≤ 1048576) (k : Nat) (hk : l.length < k) : laws_toSampleS.f k l = some (l.map cvSample) := by
  unfold laws_toSampleS.f
  rw [if_pos (by omega), if_pos (by omega)]
  have := toSampleS_loop l hl l.length k 0 (List.replicate ((l.length : Int)).toNat z70) (by simp) (by omega) (by omega) hk
  refine Eq.trans this ?_
  simp
theorem eqSample_same (x0 : Int) (x1 : Int) : laws_eqSample.f x0 x1 x0 x1 = some true := by simp [laws_eqSample.f]
theorem eqSampleS_loop (a : List S70) (hl : a.length ≤ 1048576) (d : Nat) : ∀ (k i : Nat), i ≤ a.length → a.length - i = d → d < k → laws_eqSampleS.l0 k a a (i : Int) = some true := by
  induction d with
  | zero =>
    intro k i hi hd hk
    obtain ⟨k, rfl⟩ : ∃ m, k = m + 1 := ⟨k - 1, by omega⟩
    simp only [laws_eqSampleS.l0]
    rw [if_neg (by omega)]
  | succ d ih =>
    intro k i hi hd hk
    obtain ⟨k, rfl⟩ : ∃ m, k = m + 1 := ⟨k - 1, by omega⟩
    have hlt : i < a.length := by omega
    simp only [laws_eqSampleS.l0]
    rw [if_pos (by omega), if_pos (by omega), if_pos (by omega), eqSample_same, cast_wrap hlt (by omega), ih k (i + 1) (by omega) (by omega) (by omega)]
    simp
theorem eqSampleS_same (a : List S70) (hl : a.length ≤ 1048576) (k : Nat) (hk : a.length < k) : laws_eqSampleS.f k a a = some true := by
  unfold laws_eqSampleS.f
  rw [if_pos rfl]
  exact eqSampleS_loop a hl a.length k 0 (by omega) (by omega) hk
theorem szSampleS_tot (l : List S72) (a : Int) (h0 : 0 ≤ a) (h1 : a ≤ 1048576) (hl : l.length ≤ 140737488351232) : laws_szSampleS.f l a = some (if a - l.length < 0 then -1 else a - l.length) := by
  unfold laws_szSampleS.f
  have hw : wrap64 (a - (l.length : Int)) = a - (l.length : Int) := by unfold wrap64; omega
  rw [hw]
  by_cases h : a - (l.length : Int) < 0
  · rw [if_pos h, if_pos h]
  · rw [if_neg h, if_neg h]
/-- a right sample -/
def smp (x : S70) : Bool := (decide (0 ≤ x.f0) && decide (x.f0 ≤ 99999)) && (decide (-1000000 ≤ x.f1) && decide (x.f1 ≤ 1000000))
/-- right samples from place i on: each is right, and later than the one ahead of it -/
def rise (l : List S70) (i : Nat) : Bool := (List.range l.length).all fun j => decide (j < i) || (smp (l.getD j z70) && (decide (j = 0) || decide ((l.getD (j - 1) z70).f0 < (l.getD j z70).f0)))
theorem rise_end (l : List S70) : rise l l.length = true := by
  unfold rise
  rw [List.all_eq_true]
  intro j hj
  simp [List.mem_range.1 hj]
theorem rise_step (l : List S70) (i : Nat) (h : i < l.length) : rise l i = ((smp l[i] && (decide (i = 0) || decide ((l.getD (i - 1) z70).f0 < l[i].f0))) && rise l (i + 1)) := by
  have e : l.getD i z70 = l[i] := by rw [List.getD_eq_getElem?_getD, List.getElem?_eq_getElem h]; rfl
  rw [Bool.eq_iff_iff]
  unfold rise
  rw [Bool.and_eq_true, List.all_eq_true, List.all_eq_true]
  constructor
  · intro hh
    refine ⟨?_, fun j hj => ?_⟩
    · have := hh i (List.mem_range.2 h)
      rw [e] at this
      simpa using this
    · by_cases hji : j < i + 1
      · simp [hji]
      · have h1 : ¬ j < i := by omega
        have := hh j hj
        simp only [h1, hji, decide_false, Bool.false_or] at *
        exact this
  · rintro ⟨h1, h2⟩ j hj
    by_cases hji : j < i
    · simp [hji]
    · by_cases hje : j = i
      · subst hje; rw [e]; simpa using h1
      · have := h2 j hj
        have hn : ¬ j < i + 1 := by omega
        simp only [hn, decide_false, Bool.false_or] at this
        simp only [hji, decide_false, Bool.false_or]
        exact this
theorem sok_loops (l : List S70) (hl : l.length ≤ 1048576) (d : Nat) : ∀ (k i : Nat), i ≤ l.length → l.length - i = d → d < k →
    spec_SamplesOK.l0 k l (i : Int) = some (rise l i) ∧ impl_SamplesOK.l0 k l l (l.length : Int) (i : Int) = some (rise l i) := by
  induction d with
  | zero =>
    intro k i hi hd hk
    obtain ⟨k, rfl⟩ : ∃ m, k = m + 1 := ⟨k - 1, by omega⟩
    obtain rfl : i = l.length := by omega
    simp only [spec_SamplesOK.l0, impl_SamplesOK.l0]
    rw [if_neg (by omega), if_neg (by omega), rise_end]
    exact ⟨rfl, rfl⟩
  | succ d ih =>
    intro k i hi hd hk
    obtain ⟨k, rfl⟩ : ∃ m, k = m + 1 := ⟨k - 1, by omega⟩
    have hlt : i < l.length := by omega
    obtain ⟨h1, h2⟩ := ih k (i + 1) (by omega) (by omega) (by omega)
    have e1 : ((i : Int) < (l.length : Int)) = True := eq_true (by omega)
    have e3 : ((0 : Int) ≤ (i : Int)) = True := eq_true (by omega)
    simp only [spec_SamplesOK.l0, impl_SamplesOK.l0, spec_l02Sample.f, impl_isMoment.f, impl_isValue.f, within_eq, in_eq, Option.bind_some, e1, e3, if_true]
    rw [rd70_at l i hlt, cast_wrap hlt (by omega), h1, h2, rise_step l i hlt]
    rcases Nat.eq_zero_or_pos i with h0 | h0
    · subst h0
      unfold smp
      cases (decide (0 ≤ l[0].f0) && decide (l[0].f0 ≤ 99999)) <;> cases (decide (-1000000 ≤ l[0].f1) && decide (l[0].f1 ≤ 1000000)) <;> simp
    · have hw : wrap64 ((i : Int) - 1) = ((i - 1 : Nat) : Int) := by unfold wrap64; omega
      have hp : ((i : Int) > 0) = True := eq_true (by omega)
      have hz : (0 : Int) ≤ ((i - 1 : Nat) : Int) := by omega
      have hq : ((i - 1 : Nat) : Int) < (l.length : Int) := by omega
      have hi0 : decide (i = 0) = false := decide_eq_false (by omega)
      have e1 : rd_T70 l ((i - 1 : Nat) : Int) = l.getD (i - 1) z70 := by unfold rd_T70; rw [Int.toNat_natCast]
      rw [hw, e1, hi0, Bool.false_or]
      simp only [hp, if_true, if_pos hz, if_pos hq]
      unfold smp
      generalize (l.getD (i - 1) z70).f0 = p
      generalize l[i].f0 = q
      generalize (decide (-1000000 ≤ l[i].f1) && decide (l[i].f1 ≤ 1000000)) = b
      generalize (decide (0 ≤ q) && decide (q ≤ 99999)) = a
      generalize rise l (i + 1) = r
      by_cases hpq : p < q
      · have e2 : ¬ p ≥ q := by omega
        have e3 : ¬ q ≤ p := by omega
        cases a <;> cases b <;> simp [hpq, e3]
      · have e2 : p ≥ q := by omega
        cases a <;> cases b <;> simp [hpq, e2]
def sokB (l : List S70) : Bool := !decide ((l.length : Int) > 4096) && rise l 0
theorem sok_eq (l : List S70) (hl : l.length ≤ 1048576) (k : Nat) (hk : l.length < k) : spec_SamplesOK.f k l = some (sokB l) ∧ impl_SamplesOK.f k l = some (sokB l) := by
  obtain ⟨h1, h2⟩ := sok_loops l hl l.length k 0 (by omega) (by omega) hk
  unfold spec_SamplesOK.f impl_SamplesOK.f impl_Sample.f sokB
  simp only [Option.bind_some]
  have e : ((0 : Nat) : Int) = 0 := rfl
  rw [e] at h1 h2
  rw [h1, h2]
  by_cases h : (l.length : Int) > 4096
  · simp [h]
  · simp [h]
theorem dig_one (c : Nat) (hc : c < 10) : strOfNums [(wrap64 (48 + (c : Int))) % 256] = (⟨#[UInt8.ofNat (48 + c)]⟩ : ByteArray) := by
  have e : (wrap64 (48 + (c : Int))) % 256 = ((48 + c : Nat) : Int) := by unfold wrap64; omega
  rw [e]
  unfold strOfNums
  rw [List.map_cons, List.map_nil, Int.toNat_natCast]
theorem mk_append (a b : List UInt8) : (⟨a.toArray⟩ : ByteArray) ++ (⟨b.toArray⟩ : ByteArray) = ⟨(a ++ b).toArray⟩ := by
  apply ByteArray.ext
  simp [ByteArray.data_append]
theorem dig_nat (d : Nat) : ∀ (k u : Nat), u < 10 ^ (d + 1) → u ≤ 9223372036854775807 → d < k → d < 100 → spec_l00Digits.f k (u : Int) = some ⟨(Lib.decDigits u).toArray⟩ ∧ (Lib.decDigits u).length ≤ d + 1 := by
  induction d with
  | zero =>
    intro k u hu h0 hk hd
    obtain ⟨k, rfl⟩ : ∃ m, k = m + 1 := ⟨k - 1, by omega⟩
    simp only [spec_l00Digits.f]
    rw [if_neg (by omega), if_neg (by omega), if_pos (by omega), dig_one u (by omega), Lib.decDigits_one (by omega)]
    exact ⟨rfl, by simp⟩
  | succ d ih =>
    intro k u hu h0 hk hd
    obtain ⟨k, rfl⟩ : ∃ m, k = m + 1 := ⟨k - 1, by omega⟩
    simp only [spec_l00Digits.f]
    by_cases h : u < 10
    · rw [if_neg (by omega), if_neg (by omega), if_pos (by omega), dig_one u h, Lib.decDigits_one h]
      exact ⟨rfl, by simp⟩
    · have hp : 10 ^ (d + 1 + 1) = 10 ^ (d + 1) * 10 := Nat.pow_succ ..
      have e1 : wrap64 (Int.tdiv (u : Int) 10) = ((u / 10 : Nat) : Int) := by
        have : Int.tdiv (u : Int) 10 = ((u / 10 : Nat) : Int) := by
          rw [Int.tdiv_eq_ediv_of_nonneg (by omega)]; rfl
        rw [this]; unfold wrap64; omega
      have e2 : Int.tmod (u : Int) 10 = ((u % 10 : Nat) : Int) := by
        rw [Int.tmod_eq_emod_of_nonneg (by omega)]; rfl
      obtain ⟨i1, i2⟩ := ih k (u / 10) (by omega) (by omega) (by omega) (by omega)
      rw [if_neg (by omega), if_neg (by omega), if_neg (by omega), e1, i1, e2]
      simp only [Option.bind_some]
      rw [dig_one (u % 10) (by omega), if_pos]
      · have hd : Lib.decDigits u = Lib.decDigits (u / 10) ++ [UInt8.ofNat (48 + u % 10)] := by
          conv => lhs; rw [Lib.decDigits]
          rw [dif_neg h]
        rw [hd, ← mk_append]
        refine ⟨rfl, ?_⟩
        rw [List.length_append, List.length_singleton]
        omega
      · show ((Lib.decDigits (u / 10)).toArray).size + 1 ≤ _
        rw [List.size_toArray]
        omega
theorem digits_eq (n : Int) (h0 : -9223372036854775808 ≤ n) (h1 : n ≤ 9223372036854775807) (k : Nat) (hk : 21 ≤ k) : spec_l00Digits.f k n = some ⟨(Lib.itoa n).toArray⟩ := by
  obtain ⟨k, rfl⟩ : ∃ m, k = m + 1 := ⟨k - 1, by omega⟩
  by_cases hn : n < 0
  · by_cases hm : n = -9223372036854775808
    · subst hm
      simp only [spec_l00Digits.f]
      rw [if_pos trivial]
      have e : Lib.itoa (-9223372036854775808) = 45 :: Lib.decDigits 9223372036854775808 := by unfold Lib.itoa; rw [if_pos (by decide)]; rfl
      have hq : Lib.decDigits 9223372036854775808 = Lib.decDigits 922337203685477580 ++ [UInt8.ofNat (48 + 8)] := by
        conv => lhs; rw [Lib.decDigits]
        rw [dif_neg (by decide)]
      rw [e, hq]
      simp [Lib.decDigits]
    · obtain ⟨u, rfl⟩ : ∃ u : Nat, n = -(u : Int) := ⟨n.natAbs, by omega⟩
      have e : wrap64 (-(-(u : Int))) = (u : Int) := by unfold wrap64; omega
      obtain ⟨i1, i2⟩ := dig_nat 19 k u (by omega) (by omega) (by omega) (by omega)
      simp only [spec_l00Digits.f]
      rw [if_neg hm, if_pos hn, e, i1]
      simp only [Option.bind_some]
      rw [if_pos]
      · have : Lib.itoa (-(u : Int)) = [45] ++ Lib.decDigits u := by unfold Lib.itoa; rw [if_pos hn]; simp
        rw [this, ← mk_append]
      · show 1 + ((Lib.decDigits u).toArray).size ≤ _
        rw [List.size_toArray]
        omega
  · obtain ⟨u, rfl⟩ : ∃ u : Nat, n = (u : Int) := ⟨n.toNat, by omega⟩
    rw [(dig_nat 19 (k + 1) u (by omega) (by omega) (by omega) (by omega)).1]
    have : Lib.itoa (u : Int) = Lib.decDigits u := by unfold Lib.itoa; rw [if_neg hn]; simp
    rw [this]
theorem itoa_size (n : Int) (h0 : -9223372036854775808 ≤ n) (h1 : n ≤ 9223372036854775807) : (⟨(Lib.itoa n).toArray⟩ : ByteArray).size ≤ 21 := by
  show ((Lib.itoa n).toArray).size ≤ 21
  rw [List.size_toArray]
  exact Lib.itoa_length_le n h0 h1
theorem size_mk (l : List UInt8) : (⟨l.toArray⟩ : ByteArray).size = l.length := by
  show l.toArray.size = _
  rw [List.size_toArray]
theorem rdOf_at {α : Type} (z : α) (L : List α) (i : Nat) (h : i < L.length) : rdOf z L (i : Int) = L[i] := by
  unfold rdOf
  rw [Int.toNat_natCast, List.getD_eq_getElem?_getD, List.getElem?_eq_getElem h]
  rfl
theorem inter_cons {α : Type} (sep : List α) : ∀ (x : List α) (xs : List (List α)), List.intercalate sep (x :: xs) = x ++ xs.flatMap (fun y => sep ++ y)
  | x, [] => by simp [List.intercalate]
  | x, y :: ys => by
    have ih := inter_cons sep y ys
    have e : List.intercalate sep (x :: y :: ys) = x ++ (sep ++ List.intercalate sep (y :: ys)) := by simp [List.intercalate, List.intersperse]
    rw [e, ih, List.flatMap_cons]
    simp
theorem flat_len {α : Type} (f : α → List UInt8) (B : Nat) : ∀ l : List α, (∀ x ∈ l, (f x).length ≤ B) → (l.flatMap f).length ≤ B * l.length
  | [], _ => by simp
  | a :: l, h => by
    have ih := flat_len f B l (fun x hx => h x (List.mem_cons_of_mem _ hx))
    have h1 := h a List.mem_cons_self
    rw [List.flatMap_cons, List.length_append, List.length_cons, Nat.mul_add]
    omega
theorem ba_mk (s : ByteArray) : s = ⟨s.data.toList.toArray⟩ := by cases s; simp
theorem ba_len (s : ByteArray) : s.data.toList.length = s.size := by rw [Array.length_toList]; rfl
theorem sjoin_loop (L : List ByteArray) (c : UInt8) (hL : L.length ≤ 8) (hs : ∀ p ∈ L, p.size ≤ 50) (d : Nat) : ∀ (k i : Nat) (o : List UInt8), 1 ≤ i → i ≤ L.length → o.length ≤ 100 * i → L.length - i = d → d < k →
    spec_l00Join.l0 k L ⟨#[c]⟩ ⟨o.toArray⟩ (i : Int) = some ⟨(o ++ (L.drop i).flatMap (fun y => [c] ++ y.data.toList)).toArray⟩ := by
  induction d with
  | zero =>
    intro k i o h1 hi ho hd hk
    obtain ⟨k, rfl⟩ : ∃ m, k = m + 1 := ⟨k - 1, by omega⟩
    obtain rfl : i = L.length := by omega
    simp only [spec_l00Join.l0]
    rw [if_neg (by omega), List.drop_length, List.flatMap_nil, List.append_nil]
  | succ d ih =>
    intro k i o h1 hi ho hd hk
    obtain ⟨k, rfl⟩ : ∃ m, k = m + 1 := ⟨k - 1, by omega⟩
    have hlt : i < L.length := by omega
    have hw : wrap64 ((i : Int) + 1) = ((i + 1 : Nat) : Int) := by unfold wrap64; omega
    have hp := hs L[i] (List.getElem_mem hlt)
    have hc1 : (⟨#[c]⟩ : ByteArray).size = 1 := rfl
    have e1 : (⟨o.toArray⟩ : ByteArray) ++ (⟨#[c]⟩ : ByteArray) = ⟨(o ++ [c]).toArray⟩ := mk_append o [c]
    have e2 : (⟨(o ++ [c]).toArray⟩ : ByteArray) ++ L[i] = ⟨(o ++ [c] ++ L[i].data.toList).toArray⟩ := by
      conv => lhs; rw [ba_mk L[i]]
      exact mk_append _ _
    simp only [spec_l00Join.l0]
    rw [if_pos (by omega), if_pos (by omega), if_pos (by rw [size_mk, hc1]; omega), if_pos (by omega), rdOf_at _ L i hlt, e1, if_pos (by rw [size_mk, List.length_append, List.length_singleton]; omega), e2, hw,
      ih k (i + 1) _ (by omega) (by omega) (by rw [List.length_append, List.length_append, List.length_singleton, ba_len]; omega) (by omega) (by omega), List.drop_eq_getElem_cons hlt, List.flatMap_cons]
    simp
theorem join_list (L : List ByteArray) (c : UInt8) : (joinB L ⟨#[c]⟩) = match L with
    | [] => ⟨#[]⟩
    | x :: l => ⟨(x.data.toList ++ l.flatMap (fun y => [c] ++ y.data.toList)).toArray⟩ := by
  unfold joinB Lib.join
  cases L with
  | nil => simp [List.intercalate]
  | cons x l =>
    rw [List.map_cons, inter_cons, List.flatMap_map]
theorem sjoin_eq (L : List ByteArray) (c : UInt8) (hL : L.length ≤ 8) (hs : ∀ p ∈ L, p.size ≤ 50) (k : Nat) (hk : L.length < k) : spec_l00Join.f k L ⟨#[c]⟩ = some (joinB L ⟨#[c]⟩) ∧ (joinB L ⟨#[c]⟩).size ≤ 1000 := by
  rw [join_list]
  unfold spec_l00Join.f
  obtain ⟨k, rfl⟩ : ∃ m, k = m + 1 := ⟨k - 1, by omega⟩
  cases L with
  | nil =>
    simp only [spec_l00Join.l0]
    rw [if_neg (by simp)]
    exact ⟨rfl, by decide⟩
  | cons x l =>
    have hx := hs x List.mem_cons_self
    have hll : (x :: l).length = l.length + 1 := rfl
    have hw : wrap64 ((0 : Int) + 1) = ((1 : Nat) : Int) := by unfold wrap64; omega
    have e1 : (⟨#[]⟩ : ByteArray) ++ x = ⟨x.data.toList.toArray⟩ := by
      conv => lhs; rw [ba_mk x]
      exact mk_append [] _
    have hz : (⟨#[]⟩ : ByteArray).size = 0 := rfl
    have hr : rdOf ByteArray.empty (x :: l) 0 = x := rfl
    simp only [spec_l00Join.l0, hr]
    rw [if_pos (by omega), if_neg (by omega), if_pos (by omega), if_pos (by omega), e1, hw, sjoin_loop (x :: l) c hL hs l.length k 1 _ (by omega) (by omega) (by rw [ba_len]; omega) (by omega) (by omega)]
    refine ⟨rfl, ?_⟩
    rw [size_mk, List.length_append, ba_len]
    have := flat_len (fun y : ByteArray => [c] ++ y.data.toList) 51 l (fun y hy => by
      have := hs y (List.mem_cons_of_mem _ hy)
      rw [List.length_append, ba_len, List.length_singleton]; omega)
    omega
theorem ijoin_eq (L : List ByteArray) (c : UInt8) (hL : L.length ≤ 8) (hs : ∀ p ∈ L, p.size ≤ 50) : strings_Join.f L ⟨#[c]⟩ = some (joinB L ⟨#[c]⟩) := by
  have h := (sjoin_eq L c hL hs 100 (by omega)).2
  unfold strings_Join.f
  rw [if_pos ⟨by omega, by omega⟩]
/-- what one value says -/
def sA : AnyV → ByteArray
  | .inr (.inl v) => ⟨(Lib.itoa v).toArray⟩
  | .inr (.inr s) => s
  | .inl _ => ⟨#[]⟩
def okA (x : AnyV) : Prop := (∃ v, x = anyI v ∧ -9223372036854775808 ≤ v ∧ v ≤ 9223372036854775807) ∨ ∃ s, x = anyS s
theorem joined_loop (sep : ByteArray) (xs : List AnyV) (hl : xs.length ≤ 8) (hx : ∀ x ∈ xs, okA x) (d : Nat) : ∀ (k i : Nat) (acc : List ByteArray), i ≤ xs.length → acc.length ≤ i → xs.length - i = d → d < k →
    impl_joined.l0 k sep acc xs (xs.length : Int) (i : Int) = strings_Join.f (acc ++ (xs.drop i).map sA) sep := by
  induction d with
  | zero =>
    intro k i acc hi ha hd hk
    obtain ⟨k, rfl⟩ : ∃ m, k = m + 1 := ⟨k - 1, by omega⟩
    obtain rfl : i = xs.length := by omega
    simp only [impl_joined.l0]
    rw [if_neg (by omega), List.drop_length, List.map_nil, List.append_nil]
    cases strings_Join.f acc sep <;> rfl
  | succ d ih =>
    intro k i acc hi ha hd hk
    obtain ⟨k, rfl⟩ : ∃ m, k = m + 1 := ⟨k - 1, by omega⟩
    have hlt : i < xs.length := by omega
    have hw : wrap64 ((i : Int) + 1) = ((i + 1 : Nat) : Int) := by unfold wrap64; omega
    have hr := ih k (i + 1) (acc ++ [sA xs[i]]) (by omega) (by rw [List.length_append, List.length_singleton]; omega) (by omega) (by omega)
    rw [List.append_assoc, List.singleton_append, ← List.map_cons, ← List.drop_eq_getElem_cons hlt] at hr
    have hal : acc.length < 8796093022208 := by omega
    simp only [impl_joined.l0]
    rw [if_pos (by omega), if_pos (by omega), if_pos (by omega), rdOf_at _ xs i hlt, hw, ← hr]
    rcases hx xs[i] (List.getElem_mem hlt) with ⟨v, hv, h0, h1⟩ | ⟨s, hv⟩
    · rw [hv]
      have e : strconv_Itoa.f (anyAsI (anyI v)) = some ⟨(Lib.itoa v).toArray⟩ := by
        unfold strconv_Itoa.f
        exact if_pos ⟨h0, h1⟩
      rw [if_pos (by rfl), e]
      simp only [Option.bind_some]
      rw [if_pos hal]
      rfl
    · rw [hv, if_neg (by simp [anyIsI]), if_pos (by rfl), if_pos hal]
      rfl
theorem joined_eq (c : UInt8) (xs : List AnyV) (hl : xs.length ≤ 8) (hx : ∀ x ∈ xs, okA x) (hs : ∀ x ∈ xs, (sA x).size ≤ 50) (k : Nat) (hk : xs.length < k) : impl_joined.f k ⟨#[c]⟩ xs = some (joinB (xs.map sA) ⟨#[c]⟩) := by
  unfold impl_joined.f
  have h := joined_loop ⟨#[c]⟩ xs hl hx xs.length k 0 [] (by omega) (by simp) (by omega) hk
  rw [show ((0 : Nat) : Int) = 0 from rfl] at h
  rw [h, List.drop_zero, List.nil_append, ijoin_eq _ c (by rw [List.length_map]; exact hl) (fun p hp => by obtain ⟨x, hx, rfl⟩ := List.mem_map.1 hp; exact hs x hx)]
/-- one sample's text -/
def itm (x : S70) : ByteArray := ⟨(Lib.itoa x.f0 ++ [61] ++ Lib.itoa x.f1).toArray⟩
def inR (x : S70) : Prop := (-9223372036854775808 ≤ x.f0 ∧ x.f0 ≤ 9223372036854775807) ∧ (-9223372036854775808 ≤ x.f1 ∧ x.f1 ≤ 9223372036854775807)
theorem itm_size (x : S70) (h : inR x) : (itm x).size ≤ 43 := by
  have h1 := itoa_size x.f0 h.1.1 h.1.2
  have h2 := itoa_size x.f1 h.2.1 h.2.2
  rw [size_mk] at h1 h2
  unfold itm
  rw [size_mk, List.length_append, List.length_append, List.length_singleton]
  omega
theorem spec_text_loop (l : List S70) (hl : l.length ≤ 8) (hx : ∀ x ∈ l, inR x) (d : Nat) : ∀ (k i : Nat) (acc : List ByteArray), i ≤ l.length → acc.length = i → (∀ p ∈ acc, p.size ≤ 50) → l.length - i = d → d + 30 < k →
    spec_l03Samples.l0 k l acc (i : Int) = some (joinB (acc ++ (l.drop i).map itm) ⟨#[32]⟩) := by
  induction d with
  | zero =>
    intro k i acc hi ha hs hd hk
    obtain ⟨k, rfl⟩ : ∃ m, k = m + 1 := ⟨k - 1, by omega⟩
    obtain rfl : i = l.length := by omega
    simp only [spec_l03Samples.l0]
    rw [if_neg (by omega), List.drop_length, List.map_nil, List.append_nil, (sjoin_eq acc 32 (by omega) hs k (by omega)).1]
    rfl
  | succ d ih =>
    intro k i acc hi ha hs hd hk
    obtain ⟨k, rfl⟩ : ∃ m, k = m + 1 := ⟨k - 1, by omega⟩
    have hlt : i < l.length := by omega
    have hR := hx l[i] (List.getElem_mem hlt)
    have hw : wrap64 ((i : Int) + 1) = ((i + 1 : Nat) : Int) := by unfold wrap64; omega
    have s1 := itoa_size l[i].f0 hR.1.1 hR.1.2
    have s2 := itoa_size l[i].f1 hR.2.1 hR.2.2
    have e1 : (⟨(Lib.itoa l[i].f0).toArray⟩ : ByteArray) ++ (⟨#[61]⟩ : ByteArray) = ⟨(Lib.itoa l[i].f0 ++ [61]).toArray⟩ := mk_append _ [61]
    have e2 : (⟨(Lib.itoa l[i].f0 ++ [61]).toArray⟩ : ByteArray) ++ (⟨(Lib.itoa l[i].f1).toArray⟩ : ByteArray) = itm l[i] := mk_append _ _
    rw [size_mk] at s1
    simp only [spec_l03Samples.l0]
    rw [if_pos (by omega), if_pos (by omega), rd70_at l i hlt, digits_eq _ hR.1.1 hR.1.2 k (by omega), digits_eq _ hR.2.1 hR.2.2 k (by omega)]
    simp only [Option.bind_some]
    rw [if_pos (by rw [size_mk]; omega), e1, if_pos (by rw [size_mk, List.length_append, List.length_singleton]; omega), e2, if_pos (by omega), hw,
      ih k (i + 1) _ (by omega) (by rw [List.length_append, List.length_singleton]; omega) (fun p hp => by
        rcases List.mem_append.1 hp with hp | hp
        · exact hs p hp
        · rw [List.mem_singleton.1 hp]
          have := itm_size l[i] hR
          omega) (by omega) (by omega)]
    rw [List.append_assoc, List.singleton_append, ← List.map_cons, ← List.drop_eq_getElem_cons hlt]
theorem impl_text_loop (l : List S70) (hl : l.length ≤ 8) (hx : ∀ x ∈ l, inR x) (d : Nat) : ∀ (k i : Nat) (acc : List ByteArray), i ≤ l.length → acc.length = i → (∀ p ∈ acc, p.size ≤ 50) → l.length - i = d → d + 30 < k →
    impl_samplesText.l0 k (acc.map anyS) l (l.length : Int) (i : Int) = some (joinB (acc ++ (l.drop i).map itm) ⟨#[32]⟩) := by
  induction d with
  | zero =>
    intro k i acc hi ha hs hd hk
    obtain ⟨k, rfl⟩ : ∃ m, k = m + 1 := ⟨k - 1, by omega⟩
    obtain rfl : i = l.length := by omega
    simp only [impl_samplesText.l0, impl_said.f]
    have hm : (acc.map anyS).map sA = acc := by rw [List.map_map]; exact (List.map_congr_left (fun _ _ => rfl)).trans (List.map_id acc)
    rw [if_neg (by omega), List.drop_length, List.map_nil, List.append_nil, joined_eq 32 (acc.map anyS) (by rw [List.length_map]; omega) (fun x hx => by obtain ⟨s, _, rfl⟩ := List.mem_map.1 hx; exact .inr ⟨s, rfl⟩)
      (fun x hx => by obtain ⟨s, h, rfl⟩ := List.mem_map.1 hx; exact hs s h) k (by rw [List.length_map]; omega), hm]
    rfl
  | succ d ih =>
    intro k i acc hi ha hs hd hk
    obtain ⟨k, rfl⟩ : ∃ m, k = m + 1 := ⟨k - 1, by omega⟩
    have hlt : i < l.length := by omega
    have hR := hx l[i] (List.getElem_mem hlt)
    have hw : wrap64 ((i : Int) + 1) = ((i + 1 : Nat) : Int) := by unfold wrap64; omega
    have s1 := itoa_size l[i].f0 hR.1.1 hR.1.2
    have s2 := itoa_size l[i].f1 hR.2.1 hR.2.2
    have hj := joined_eq 61 [anyI l[i].f0, anyI l[i].f1] (by simp) (fun x hx => by
      rcases List.mem_cons.1 hx with rfl | hx
      · exact .inl ⟨_, rfl, hR.1⟩
      · rw [List.mem_singleton.1 hx]; exact .inl ⟨_, rfl, hR.2⟩) (fun x hx => by
      rcases List.mem_cons.1 hx with rfl | hx
      · exact Nat.le_trans s1 (by omega)
      · rw [List.mem_singleton.1 hx]; exact Nat.le_trans s2 (by omega)) k (by simp; omega)
    have he : joinB ([anyI l[i].f0, anyI l[i].f1].map sA) ⟨#[61]⟩ = itm l[i] := by
      rw [List.map_cons, List.map_cons, List.map_nil, join_list]
      simp [sA, itm]
    rw [he] at hj
    simp only [impl_samplesText.l0]
    rw [if_pos (by omega), if_pos (by omega), if_pos (by omega), rd70_at l i hlt, hj]
    simp only [Option.bind_some]
    have em : acc.map anyS ++ [anyS (itm l[i])] = (acc ++ [itm l[i]]).map anyS := by rw [List.map_append]; rfl
    rw [if_pos (by rw [List.length_map]; omega), hw, em,
      ih k (i + 1) _ (by omega) (by rw [List.length_append, List.length_singleton]; omega) (fun p hp => by
        rcases List.mem_append.1 hp with hp | hp
        · exact hs p hp
        · rw [List.mem_singleton.1 hp]
          have := itm_size l[i] hR
          omega) (by omega) (by omega)]
    rw [List.append_assoc, List.singleton_append, ← List.map_cons, ← List.drop_eq_getElem_cons hlt]
theorem sok_inR (l : List S70) (h : sokB l = true) : ∀ x ∈ l, inR x := by
  intro x hx
  obtain ⟨i, hi, rfl⟩ := List.getElem_of_mem hx
  unfold sokB rise at h
  rw [Bool.and_eq_true, List.all_eq_true] at h
  have := h.2 i (List.mem_range.2 hi)
  have e : l.getD i z70 = l[i] := by rw [List.getD_eq_getElem?_getD, List.getElem?_eq_getElem hi]; rfl
  rw [e] at this
  simp only [Nat.not_lt_zero, decide_false, Bool.false_or, Bool.and_eq_true] at this
  have h1 := this.1
  unfold smp at h1
  simp only [Bool.and_eq_true, decide_eq_true_eq] at h1
  exact ⟨⟨by omega, by omega⟩, by omega, by omega⟩
theorem text_same (l : List S70) (hl : l.length ≤ 1048576) (k : Nat) (hk : l.length + 100 < k) : ∃ t c, spec_SamplesText.f k l = some (t, c) ∧ impl_SamplesText.f k l = some (t, c) := by
  unfold spec_SamplesText.f impl_SamplesText.f impl_Sample.f
  obtain ⟨h1, h2⟩ := sok_eq l hl k (by omega)
  rw [h1, h2]
  obtain ⟨k, rfl⟩ : ∃ m, k = m + 4 := ⟨k - 4, by omega⟩
  simp only [Option.bind_some]
  rw [first3]
  simp only [Option.bind_some]
  by_cases h4 : (l.length : Int) > 4096
  · rw [if_pos h4]
    exact ⟨⟨#[]⟩, 2, rfl, by simp [h4]⟩
  · rw [if_neg h4]
    cases hb : sokB l with
    | false => exact ⟨⟨#[]⟩, 1, by simp, by simp [h4]⟩
    | true =>
      simp only [if_true]
      by_cases h8 : (l.length : Int) > 8
      · rw [if_pos h8]
        exact ⟨⟨#[]⟩, 6, rfl, by simp [h4, h8]⟩
      · have hR := sok_inR l hb
        have e1 := spec_text_loop l (by omega) hR l.length (k + 4) 0 [] (by omega) rfl (by simp) (by omega) (by omega)
        have e2 := impl_text_loop l (by omega) hR l.length (k + 4) 0 [] (by omega) rfl (by simp) (by omega) (by omega)
        unfold spec_l03Samples.f impl_samplesText.f
        rw [show ((0 : Nat) : Int) = 0 from rfl] at e1 e2
        have e3 : ([] : List ByteArray).map anyS = ([] : List AnyV) := rfl
        rw [e3] at e2
        rw [if_neg h8, e1, e2]
        exact ⟨_, 0, rfl, by simp [h4, h8]⟩
theorem FnExactSamplesText : laws_FnExactSamplesText.Pure := by
  intro l hl0
  obtain ⟨hl1, hl2, _⟩ := hl0
  obtain ⟨K, hK⟩ : ∃ K, K = l.length + 200 := ⟨_, rfl⟩
  refine ⟨K + 1, ?_⟩
  unfold laws_FnExactSamplesText.f
  rw [szSampleS_tot l 1048576 (by omega) (by omega) (by omega)]
  simp only [Option.bind_some]
  by_cases hs : (1048576 : Int) - l.length < 0
  · rw [if_pos hs, if_pos (by decide)]
  · rw [if_neg hs, if_neg hs, toSampleS_eq l (by omega) (K + 1) (by omega)]
    simp only [Option.bind_some]
    obtain ⟨t, c, h1, h2⟩ := text_same (l.map cvSample) (by rw [List.length_map]; omega) (K + 1) (by rw [List.length_map]; omega)
    rw [h1, h2]
    simp only [Option.bind_some, if_true]
    simp only [laws_FnExactSamplesText.j0, bne_self_eq_false, Bool.false_eq_true, if_false]
    rw [toSampleS_eq l (by omega) K (by omega)]
    simp only [Option.bind_some]
    rw [eqSampleS_same _ (by rw [List.length_map]; omega) K (by rw [List.length_map]; omega)]
    simp

end Go.Proofs.YtbdhpmamlibmhaaDoor.Pure
