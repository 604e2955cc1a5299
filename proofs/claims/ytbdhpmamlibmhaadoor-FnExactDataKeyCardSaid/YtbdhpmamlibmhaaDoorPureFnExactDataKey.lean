/- The pure law of FnExactDataKey: what the printed functions compute answers true for every input of the kinds and sizes that the statement gives. -/
import Derived.Test.YtbdhpmamlibmhaaDoorKinFnExactDataKey
import Derived.Lib.ItoaLen
import Derived.Lib.ItoaLen
import Derived.Lib.ItoaLen
import Derived.Lib.ItoaLen
import Derived.Lib.ItoaLen
namespace Go.Proofs.YtbdhpmamlibmhaaDoor.Pure
open Go.RowKit Go.Proofs.YtbdhpmamlibmhaaDoorW.PrintWords Go.Proofs.YtbdhpmamlibmhaaDoorW.PrintLast Go.Proofs.YtbdhpmamlibmhaaDoor.XFnExactDataKey
set_option linter.unusedSimpArgs false
set_option linter.unusedVariables false

-- BODY
theorem dig_one (c : Nat) (hc : c < 10) : strOfNums [(wrap64 (48 + (c : Int))) % 256] = (⟨#[UInt8.ofNat (48 + c)]⟩ : ByteArray) := by
  have e : (wrap64 (48 + (c : Int))) % 256 = ((48 + c : Nat) : Int) := by unfold wrap64; omega
  rw [e]
  unfold strOfNums
  rw [List.map_cons, List.map_nil, Int.toNat_natCast]
theorem mk_append (a b : List UInt8) : (⟨a.toArray⟩ : ByteArray) ++ (⟨b.toArray⟩ : ByteArray) = ⟨(a ++ b).toArray⟩ := by
  apply ByteArray.ext
  simp [ByteArray.data_append]
theorem dig_nat (d : Nat) : ∀ (k u : Nat), u < 10 ^ (d + 1) → u ≤ 9223372036854775807 → d < k → d < 100 → spec_l00Digits.f k (u : Int) = some ⟨(Lib.decDigits u).toArray⟩ ∧ (Lib.decDigits u).length ≤ d + 1 := by
  induction d with
  | zero =>
    intro k u hu h0 hk hd
    obtain ⟨k, rfl⟩ : ∃ m, k = m + 1 := ⟨k - 1, by omega⟩
    simp only [spec_l00Digits.f]
    rw [if_neg (by omega), if_neg (by omega), if_pos (by omega), dig_one u (by omega), Lib.decDigits_one (by omega)]
    exact ⟨rfl, by simp⟩
  | succ d ih =>
    intro k u hu h0 hk hd
    obtain ⟨k, rfl⟩ : ∃ m, k = m + 1 := ⟨k - 1, by omega⟩
    simp only [spec_l00Digits.f]
    by_cases h : u < 10
    · rw [if_neg (by omega), if_neg (by omega), if_pos (by omega), dig_one u h, Lib.decDigits_one h]
      exact ⟨rfl, by simp⟩
    · have hp : 10 ^ (d + 1 + 1) = 10 ^ (d + 1) * 10 := Nat.pow_succ ..
      have e1 : wrap64 (Int.tdiv (u : Int) 10) = ((u / 10 : Nat) : Int) := by
        have : Int.tdiv (u : Int) 10 = ((u / 10 : Nat) : Int) := by
          rw [Int.tdiv_eq_ediv_of_nonneg (by omega)]; rfl
        rw [this]; unfold wrap64; omega
      have e2 : Int.tmod (u : Int) 10 = ((u % 10 : Nat) : Int) := by
        rw [Int.tmod_eq_emod_of_nonneg (by omega)]; rfl
      obtain ⟨i1, i2⟩ := ih k (u / 10) (by omega) (by omega) (by omega) (by omega)
      rw [if_neg (by omega), if_neg (by omega), if_neg (by omega), e1, i1, e2]
      simp only [Option.bind_some]
      rw [dig_one (u % 10) (by omega), if_pos]
      · have hd : Lib.decDigits u = Lib.decDigits (u / 10) ++ [UInt8.ofNat (48 + u % 10)] := by
          conv => lhs; rw [Lib.decDigits]
          rw [dif_neg h]
        rw [hd, ← mk_append]
        refine ⟨rfl, ?_⟩
        rw [List.length_append, List.length_singleton]
        omega
      · show ((Lib.decDigits (u / 10)).toArray).size + 1 ≤ _
        rw [List.size_toArray]
        omega
theorem digits_eq (n : Int) (h0 : -9223372036854775808 ≤ n) (h1 : n ≤ 9223372036854775807) (k : Nat) (hk : 21 ≤ k) : spec_l00Digits.f k n = some ⟨(Lib.itoa n).toArray⟩ := by
  obtain ⟨k, rfl⟩ : ∃ m, k = m + 1 := ⟨k - 1, by omega⟩
  by_cases hn : n < 0
  · by_cases hm : n = -9223372036854775808
    · subst hm
      simp only [spec_l00Digits.f]
      rw [if_pos trivial]
      have e : Lib.itoa (-9223372036854775808) = 45 :: Lib.decDigits 9223372036854775808 := by unfold Lib.itoa; rw [if_pos (by decide)]; rfl
      have hq : Lib.decDigits 9223372036854775808 = Lib.decDigits 922337203685477580 ++ [UInt8.ofNat (48 + 8)] := by
        conv => lhs; rw [Lib.decDigits]
        rw [dif_neg (by decide)]
      rw [e, hq]
      simp [Lib.decDigits]
    · obtain ⟨u, rfl⟩ : ∃ u : Nat, n = -(u : Int) := ⟨n.natAbs, by omega⟩
      have e : wrap64 (-(-(u : Int))) = (u : Int) := by unfold wrap64; omega
      obtain ⟨i1, i2⟩ := dig_nat 19 k u (by omega) (by omega) (by omega) (by omega)
      simp only [spec_l00Digits.f]
      rw [if_neg hm, if_pos hn, e, i1]
      simp only [Option.bind_some]
      rw [if_pos]
      · have : Lib.itoa (-(u : Int)) = [45] ++ Lib.decDigits u := by unfold Lib.itoa; rw [if_pos hn]; simp
        rw [this, ← mk_append]
      · show 1 + ((Lib.decDigits u).toArray).size ≤ _
        rw [List.size_toArray]
        omega
  · obtain ⟨u, rfl⟩ : ∃ u : Nat, n = (u : Int) := ⟨n.toNat, by omega⟩
    rw [(dig_nat 19 (k + 1) u (by omega) (by omega) (by omega) (by omega)).1]
    have : Lib.itoa (u : Int) = Lib.decDigits u := by unfold Lib.itoa; rw [if_neg hn]; simp
    rw [this]
theorem itoa_size (n : Int) (h0 : -9223372036854775808 ≤ n) (h1 : n ≤ 9223372036854775807) : (⟨(Lib.itoa n).toArray⟩ : ByteArray).size ≤ 21 := by
  show ((Lib.itoa n).toArray).size ≤ 21
  rw [List.size_toArray]
  exact Lib.itoa_length_le n h0 h1
/-- the last w digits -/
def fw : Nat → Nat → List UInt8
  | 0, _ => []
  | w + 1, u => fw w (u / 10) ++ [UInt8.ofNat (48 + u % 10)]
theorem fw_length : ∀ w u, (fw w u).length = w
  | 0, _ => rfl
  | w + 1, u => by simp [fw, fw_length w]
theorem dec_step (u : Nat) (h : ¬ u < 10) : Lib.decDigits u = Lib.decDigits (u / 10) ++ [UInt8.ofNat (48 + u % 10)] := by
  conv => lhs; rw [Lib.decDigits]
  rw [dif_neg h]
theorem fw_dec : ∀ (w u : Nat), u < 10 ^ w → Lib.decDigits (10 ^ w + u) = 49 :: fw w u
  | 0, u, h => by
    obtain rfl : u = 0 := by simpa using h
    rw [Lib.decDigits_one (by decide)]
    rfl
  | w + 1, u, h => by
    have hp : 10 ^ (w + 1) = 10 ^ w * 10 := Nat.pow_succ ..
    have h1 : 1 ≤ 10 ^ w := Nat.one_le_pow _ _ (by decide)
    rw [dec_step _ (by omega), show (10 ^ (w + 1) + u) / 10 = 10 ^ w + u / 10 by omega, show (10 ^ (w + 1) + u) % 10 = u % 10 by omega, fw_dec w (u / 10) (by omega)]
    rfl
theorem fw_pad : ∀ (w u : Nat), u < 10 ^ (w + 1) → fw (w + 1) u = List.replicate (w + 1 - (Lib.decDigits u).length) 48 ++ Lib.decDigits u ∧ (Lib.decDigits u).length ≤ w + 1
  | 0, u, h => by
    have hu : u < 10 := by simpa using h
    rw [Lib.decDigits_one hu]
    simp [fw, Nat.mod_eq_of_lt hu]
  | w + 1, u, h => by
    have hp : 10 ^ (w + 1 + 1) = 10 ^ (w + 1) * 10 := Nat.pow_succ ..
    obtain ⟨i1, i2⟩ := fw_pad w (u / 10) (by omega)
    rw [fw, i1]
    by_cases hu : u < 10
    · have h0 : u / 10 = 0 := by omega
      rw [h0, Lib.decDigits_one (show 0 < 10 by decide), Lib.decDigits_one hu, Nat.mod_eq_of_lt hu]
      refine ⟨?_, by simp⟩
      have e : UInt8.ofNat (48 + 0) = 48 := rfl
      rw [e]
      simp only [List.length_singleton, Nat.add_sub_cancel]
      rw [show w + 1 = (w + 1) from rfl, List.replicate_succ' (n := w)]
    · rw [dec_step u hu]
      refine ⟨?_, by simp; omega⟩
      rw [List.length_append, List.length_singleton, ← List.append_assoc]
      congr 3
      omega
theorem wide_loop (d : Nat) : ∀ (k : Nat) (l : List UInt8), l.length ≤ 6 → 6 - l.length = d → d < k → spec_l03Wide.l0 k 6 ⟨l.toArray⟩ = some ⟨(List.replicate d 48 ++ l).toArray⟩ := by
  induction d with
  | zero =>
    intro k l hl hd hk
    obtain ⟨k, rfl⟩ : ∃ m, k = m + 1 := ⟨k - 1, by omega⟩
    simp only [spec_l03Wide.l0]
    rw [if_neg]
    · rfl
    · show ¬ ((l.toArray.size : Nat) : Int) < 6
      rw [List.size_toArray]; omega
  | succ d ih =>
    intro k l hl hd hk
    obtain ⟨k, rfl⟩ : ∃ m, k = m + 1 := ⟨k - 1, by omega⟩
    simp only [spec_l03Wide.l0]
    rw [if_pos, if_pos]
    · have e : (⟨#[48]⟩ : ByteArray) ++ (⟨l.toArray⟩ : ByteArray) = ⟨(48 :: l).toArray⟩ := mk_append [48] l
      rw [e, ih k (48 :: l) (by simp; omega) (by simp; omega) (by omega), List.replicate_succ', List.append_assoc]
      rfl
    · show 1 + l.toArray.size ≤ _
      rw [List.size_toArray]; omega
    · show ((l.toArray.size : Nat) : Int) < 6
      rw [List.size_toArray]; omega
def s6 (n : Int) : ByteArray := ⟨(fw 6 n.toNat).toArray⟩
theorem s6_size (n : Int) : (s6 n).size = 6 := by
  show (fw 6 n.toNat).toArray.size = 6
  rw [List.size_toArray, fw_length]
theorem wide_eq (n : Int) (h0 : 0 ≤ n) (h1 : n ≤ 999999) (k : Nat) (hk : 21 ≤ k) : spec_l03Wide.f k n 6 = some (s6 n) := by
  obtain ⟨u, rfl⟩ : ∃ u : Nat, n = (u : Int) := ⟨n.toNat, by omega⟩
  unfold spec_l03Wide.f
  rw [digits_eq _ (by omega) (by omega) k hk]
  simp only [Option.bind_some]
  have e : Lib.itoa (u : Int) = Lib.decDigits u := by unfold Lib.itoa; rw [if_neg (by omega)]; simp
  obtain ⟨p1, p2⟩ := fw_pad 5 u (by omega)
  rw [e, wide_loop (6 - (Lib.decDigits u).length) k _ p2 rfl (by omega)]
  unfold s6
  rw [Int.toNat_natCast, p1]
theorem six_eq (n : Int) (h0 : 0 ≤ n) (h1 : n ≤ 999999) : impl_six.f n = some (s6 n) := by
  obtain ⟨u, rfl⟩ : ∃ u : Nat, n = (u : Int) := ⟨n.toNat, by omega⟩
  have hw : wrap64 (1000000 + (u : Int)) = ((10 ^ 6 + u : Nat) : Int) := by unfold wrap64; omega
  unfold impl_six.f strconv_Itoa.f
  rw [hw, if_pos (by omega)]
  have e : Lib.itoa ((10 ^ 6 + u : Nat) : Int) = 49 :: fw 6 u := by
    unfold Lib.itoa
    rw [if_neg (by omega), Int.toNat_natCast, fw_dec 6 u (by omega)]
  simp only [Option.bind_some]
  rw [e]
  have hsz : (⟨(49 :: fw 6 u).toArray⟩ : ByteArray).size = 7 := by
    show (49 :: fw 6 u).toArray.size = 7
    rw [List.size_toArray, List.length_cons, fw_length]
  rw [hsz, if_pos (by decide)]
  unfold s6
  rw [Int.toNat_natCast]
  have hx : (⟨(49 :: fw 6 u).toArray⟩ : ByteArray).extract 1 7 = ⟨(fw 6 u).toArray⟩ := by
    apply ByteArray.ext
    rw [ByteArray.data_extract]
    simp [List.extract, fw_length]
    exact List.take_of_length_le (by rw [fw_length]; omega)
  rw [hx]
def pre3 (a : Int) : List UInt8 := if a = 0 then [114, 97, 119, 47] else if a = 1 then [116, 49, 47] else [116, 50, 47]
def keyB (a b c : Int) : ByteArray := ⟨(pre3 a ++ fw 6 b.toNat ++ [45] ++ fw 6 c.toNat).toArray⟩
theorem key_spec (a b c : Int) (h1 : 0 ≤ a ∧ a ≤ 2) (h2 : 0 ≤ b ∧ b ≤ 999999) (h3 : 0 ≤ c ∧ c ≤ 999999) (k : Nat) (hk : 21 ≤ k) : spec_l03Key.f k a b c = some (keyB a b c) := by
  unfold spec_l03Key.f
  rw [wide_eq b h2.1 h2.2 k hk, wide_eq c h3.1 h3.2 k hk]
  simp only [Option.bind_some]
  have hs := s6_size b
  have ht := s6_size c
  have hz : ∀ (l : List UInt8), (⟨l.toArray⟩ : ByteArray).size = l.length := fun l => by show l.toArray.size = _; rw [List.size_toArray]
  rw [if_pos h1.1, if_pos (by show a < (3 : Int); omega)]
  have hx : rdOf ByteArray.empty [(⟨#[114, 97, 119]⟩ : ByteArray), (⟨#[116, 49]⟩ : ByteArray), (⟨#[116, 50]⟩ : ByteArray)] a = if a = 0 then (⟨#[114, 97, 119]⟩ : ByteArray) else if a = 1 then (⟨#[116, 49]⟩ : ByteArray) else (⟨#[116, 50]⟩ : ByteArray) := by
    have : a = 0 ∨ a = 1 ∨ a = 2 := by omega
    rcases this with rfl | rfl | rfl <;> rfl
  rw [hx]
  have ex : (if a = 0 then (⟨#[114, 97, 119]⟩ : ByteArray) else if a = 1 then (⟨#[116, 49]⟩ : ByteArray) else (⟨#[116, 50]⟩ : ByteArray)) ++ (⟨#[47]⟩ : ByteArray) = ⟨(pre3 a).toArray⟩ := by
    unfold pre3
    split
    · rfl
    · split <;> rfl
  have hl : (pre3 a).length ≤ 4 := by
    unfold pre3
    split
    · decide
    · split <;> decide
  have hy : (if a = 0 then (⟨#[114, 97, 119]⟩ : ByteArray) else if a = 1 then (⟨#[116, 49]⟩ : ByteArray) else (⟨#[116, 50]⟩ : ByteArray)).size ≤ 3 := by
    split
    · decide
    · split <;> decide
  rw [if_pos (by omega), ex, if_pos (by rw [hz]; omega)]
  have e2 : (⟨(pre3 a).toArray⟩ : ByteArray) ++ s6 b = ⟨(pre3 a ++ fw 6 b.toNat).toArray⟩ := mk_append _ _
  have e3 : (⟨(pre3 a ++ fw 6 b.toNat).toArray⟩ : ByteArray) ++ (⟨#[45]⟩ : ByteArray) = ⟨(pre3 a ++ fw 6 b.toNat ++ [45]).toArray⟩ := mk_append _ [45]
  have e4 : (⟨(pre3 a ++ fw 6 b.toNat ++ [45]).toArray⟩ : ByteArray) ++ s6 c = keyB a b c := mk_append _ _
  rw [e2, if_pos (by rw [hz, List.length_append, fw_length]; omega), e3, if_pos (by rw [hz, List.length_append, List.length_append, fw_length, List.length_singleton]; omega), e4]
theorem key_impl (a b c : Int) (h1 : 0 ≤ a ∧ a ≤ 2) (h2 : 0 ≤ b ∧ b ≤ 999999) (h3 : 0 ≤ c ∧ c ≤ 999999) : impl_dataKey.f a b c = some (keyB a b c) := by
  unfold impl_dataKey.f impl_dataPrefixes.f
  rw [six_eq b h2.1 h2.2, six_eq c h3.1 h3.2]
  simp only [Option.bind_some]
  have hs := s6_size b
  have ht := s6_size c
  have hx : rdOf ByteArray.empty [(⟨#[114, 97, 119, 47]⟩ : ByteArray), (⟨#[116, 49, 47]⟩ : ByteArray), (⟨#[116, 50, 47]⟩ : ByteArray)] a = ⟨(pre3 a).toArray⟩ := by
    have : a = 0 ∨ a = 1 ∨ a = 2 := by omega
    rcases this with rfl | rfl | rfl <;> rfl
  have hl : (pre3 a).length ≤ 4 := by
    unfold pre3
    split
    · decide
    · split <;> decide
  have hz : ∀ (l : List UInt8), (⟨l.toArray⟩ : ByteArray).size = l.length := fun l => by show l.toArray.size = _; rw [List.size_toArray]
  rw [if_pos ⟨h1.1, by show a < (3 : Int); omega⟩, hx, if_pos (by rw [hz]; omega)]
  have e2 : (⟨(pre3 a).toArray⟩ : ByteArray) ++ s6 b = ⟨(pre3 a ++ fw 6 b.toNat).toArray⟩ := mk_append _ _
  have e3 : (⟨(pre3 a ++ fw 6 b.toNat).toArray⟩ : ByteArray) ++ (⟨#[45]⟩ : ByteArray) = ⟨(pre3 a ++ fw 6 b.toNat ++ [45]).toArray⟩ := mk_append _ [45]
  have e4 : (⟨(pre3 a ++ fw 6 b.toNat ++ [45]).toArray⟩ : ByteArray) ++ s6 c = keyB a b c := mk_append _ _
  rw [e2, e3, e4]
theorem FnExactDataKey : laws_FnExactDataKey.Pure := by
  intro a b c _ _ _
  refine ⟨21, ?_⟩
  unfold laws_FnExactDataKey.f spec_DataKey.f impl_DataKey.f spec_l03KeyOK.f impl_isTier.f impl_isSix.f impl_within.f spec_l01In.f
  by_cases h1 : 0 ≤ a ∧ a ≤ 2
  · by_cases h2 : 0 ≤ b ∧ b ≤ 999999
    · by_cases h3 : 0 ≤ c ∧ c ≤ 999999
      · rw [key_spec a b c h1 h2 h3 21 (by omega), key_impl a b c h1 h2 h3]
        simp [h1.1, h1.2, h2.1, h2.2, h3.1, h3.2]
      · simp only [h1.1, h1.2, h2.1, h2.2, if_true, Option.bind_some, decide_true]
        by_cases h0 : 0 ≤ c
        · have : ¬ c ≤ 999999 := fun h => h3 ⟨h0, h⟩
          simp [h0, this]
        · simp [h0]
    · simp only [h1.1, h1.2, if_true, Option.bind_some, decide_true]
      by_cases h0 : 0 ≤ b
      · have : ¬ b ≤ 999999 := fun h => h2 ⟨h0, h⟩
        simp [h0, this]
      · simp [h0]
  · by_cases h0 : 0 ≤ a
    · have : ¬ a ≤ 2 := fun h => h1 ⟨h0, h⟩
      simp [h0, this]
    · simp [h0]

end Go.Proofs.YtbdhpmamlibmhaaDoor.Pure
