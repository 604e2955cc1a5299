/- The pure law of FnExactPinKey: what the printed functions compute answers true for every input of the kinds and sizes that the statement gives. -/
import Derived.Test.YtbdhpmamlibmhaaDoorKinFnExactPinKey
import Derived.Lib.ItoaLen
import Derived.Lib.ItoaLen
namespace Go.Proofs.YtbdhpmamlibmhaaDoor.Pure
open Go.RowKit Go.Proofs.YtbdhpmamlibmhaaDoorW.PrintWords Go.Proofs.YtbdhpmamlibmhaaDoorW.PrintLast Go.Proofs.YtbdhpmamlibmhaaDoor.XFnExactPinKey
set_option linter.unusedSimpArgs false
set_option linter.unusedVariables false

-- BODY
theorem dig_one (c : Nat) (hc : c < 10) : strOfNums [(wrap64 (48 + (c : Int))) % 256] = (⟨#[UInt8.ofNat (48 + c)]⟩ : ByteArray) := by
  have e : (wrap64 (48 + (c : Int))) % 256 = ((48 + c : Nat) : Int) := by unfold wrap64; omega
  rw [e]
  unfold strOfNums
  rw [List.map_cons, List.map_nil, Int.toNat_natCast]
theorem mk_append (a b : List UInt8) : (⟨a.toArray⟩ : ByteArray) ++ (⟨b.toArray⟩ : ByteArray) = ⟨(a ++ b).toArray⟩ := by
  apply ByteArray.ext
  simp [ByteArray.data_append]
theorem dig_nat (d : Nat) : ∀ (k u : Nat), u < 10 ^ (d + 1) → u ≤ 9223372036854775807 → d < k → d < 100 → spec_l00Digits.f k (u : Int) = some ⟨(Lib.decDigits u).toArray⟩ ∧ (Lib.decDigits u).length ≤ d + 1 := by
  induction d with
  | zero =>
    intro k u hu h0 hk hd
    obtain ⟨k, rfl⟩ : ∃ m, k = m + 1 := ⟨k - 1, by omega⟩
    simp only [spec_l00Digits.f]
    rw [if_neg (by omega), if_neg (by omega), if_pos (by omega), dig_one u (by omega), Lib.decDigits_one (by omega)]
    exact ⟨rfl, by simp⟩
  | succ d ih =>
    intro k u hu h0 hk hd
    obtain ⟨k, rfl⟩ : ∃ m, k = m + 1 := ⟨k - 1, by omega⟩
    simp only [spec_l00Digits.f]
    by_cases h : u < 10
    · rw [if_neg (by omega), if_neg (by omega), if_pos (by omega), dig_one u h, Lib.decDigits_one h]
      exact ⟨rfl, by simp⟩
    · have hp : 10 ^ (d + 1 + 1) = 10 ^ (d + 1) * 10 := Nat.pow_succ ..
      have e1 : wrap64 (Int.tdiv (u : Int) 10) = ((u / 10 : Nat) : Int) := by
        have : Int.tdiv (u : Int) 10 = ((u / 10 : Nat) : Int) := by
          rw [Int.tdiv_eq_ediv_of_nonneg (by omega)]; rfl
        rw [this]; unfold wrap64; omega
      have e2 : Int.tmod (u : Int) 10 = ((u % 10 : Nat) : Int) := by
        rw [Int.tmod_eq_emod_of_nonneg (by omega)]; rfl
      obtain ⟨i1, i2⟩ := ih k (u / 10) (by omega) (by omega) (by omega) (by omega)
      rw [if_neg (by omega), if_neg (by omega), if_neg (by omega), e1, i1, e2]
      simp only [Option.bind_some]
      rw [dig_one (u % 10) (by omega), if_pos]
      · have hd : Lib.decDigits u = Lib.decDigits (u / 10) ++ [UInt8.ofNat (48 + u % 10)] := by
          conv => lhs; rw [Lib.decDigits]
          rw [dif_neg h]
        rw [hd, ← mk_append]
        refine ⟨rfl, ?_⟩
        rw [List.length_append, List.length_singleton]
        omega
      · show ((Lib.decDigits (u / 10)).toArray).size + 1 ≤ _
        rw [List.size_toArray]
        omega
theorem digits_eq (n : Int) (h0 : -9223372036854775808 ≤ n) (h1 : n ≤ 9223372036854775807) (k : Nat) (hk : 21 ≤ k) : spec_l00Digits.f k n = some ⟨(Lib.itoa n).toArray⟩ := by
  obtain ⟨k, rfl⟩ : ∃ m, k = m + 1 := ⟨k - 1, by omega⟩
  by_cases hn : n < 0
  · by_cases hm : n = -9223372036854775808
    · subst hm
      simp only [spec_l00Digits.f]
      rw [if_pos trivial]
      have e : Lib.itoa (-9223372036854775808) = 45 :: Lib.decDigits 9223372036854775808 := by unfold Lib.itoa; rw [if_pos (by decide)]; rfl
      have hq : Lib.decDigits 9223372036854775808 = Lib.decDigits 922337203685477580 ++ [UInt8.ofNat (48 + 8)] := by
        conv => lhs; rw [Lib.decDigits]
        rw [dif_neg (by decide)]
      rw [e, hq]
      simp [Lib.decDigits]
    · obtain ⟨u, rfl⟩ : ∃ u : Nat, n = -(u : Int) := ⟨n.natAbs, by omega⟩
      have e : wrap64 (-(-(u : Int))) = (u : Int) := by unfold wrap64; omega
      obtain ⟨i1, i2⟩ := dig_nat 19 k u (by omega) (by omega) (by omega) (by omega)
      simp only [spec_l00Digits.f]
      rw [if_neg hm, if_pos hn, e, i1]
      simp only [Option.bind_some]
      rw [if_pos]
      · have : Lib.itoa (-(u : Int)) = [45] ++ Lib.decDigits u := by unfold Lib.itoa; rw [if_pos hn]; simp
        rw [this, ← mk_append]
      · show 1 + ((Lib.decDigits u).toArray).size ≤ _
        rw [List.size_toArray]
        omega
  · obtain ⟨u, rfl⟩ : ∃ u : Nat, n = (u : Int) := ⟨n.toNat, by omega⟩
    rw [(dig_nat 19 (k + 1) u (by omega) (by omega) (by omega) (by omega)).1]
    have : Lib.itoa (u : Int) = Lib.decDigits u := by unfold Lib.itoa; rw [if_neg hn]; simp
    rw [this]
theorem itoa_size (n : Int) (h0 : -9223372036854775808 ≤ n) (h1 : n ≤ 9223372036854775807) : (⟨(Lib.itoa n).toArray⟩ : ByteArray).size ≤ 21 := by
  show ((Lib.itoa n).toArray).size ≤ 21
  rw [List.size_toArray]
  exact Lib.itoa_length_le n h0 h1
theorem FnExactPinKey : laws_FnExactPinKey.Pure := by
  intro a ha
  have hb : -9223372036854775808 ≤ a ∧ a ≤ 9223372036854775807 := by simpa [Lit.wf, IntKind.min, IntKind.max, IntKind.signed, IntKind.bits] using ha
  refine ⟨21, ?_⟩
  have hd := digits_eq a hb.1 hb.2 21 (by omega)
  have hs := itoa_size a hb.1 hb.2
  unfold laws_FnExactPinKey.f spec_PinKey.f impl_PinKey.f impl_isId.f impl_within.f spec_l01In.f spec_l10Key.f impl_pinKey.f strconv_Itoa.f
  rw [hd, if_pos hb]
  simp only [Option.bind_some]
  by_cases h : (0 : Int) ≤ a
  · rw [if_pos h]
    by_cases h9 : a ≤ 9
    · simp only [Option.bind_some, h9, decide_true, if_true]
      rw [if_pos (by omega)]
      simp
    · simp [h9]
  · rw [if_neg h]
    simp

end Go.Proofs.YtbdhpmamlibmhaaDoor.Pure
