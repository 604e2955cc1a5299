/- The pure law of FnAlign: what the printed functions compute answers true for every input of the kinds and sizes that the statement gives. -/
import Derived.Test.YtodmgklagfabaaaKinFnAlign
import Derived.OpenShut
namespace Go.Proofs.Ytodmgklagfabaaa.Pure
open Go.RowKit Go.Proofs.YtodmgklagfabaaaW.PrintWords Go.Proofs.YtodmgklagfabaaaW.PrintLast Go.Proofs.Ytodmgklagfabaaa.XFnAlign

-- BODY
theorem tmod_nonneg_small (a n : Int) (h : 0 < n) (ha : 0 ≤ a) : 0 ≤ Int.tmod a n ∧ Int.tmod a n < n := by
  exact ⟨Int.tmod_nonneg _ ha, Int.tmod_lt_of_pos _ h⟩
/-- A drawn number: it is there, and from 0 to 8999 (the sum that is taken never falls below 0). -/
theorem at_some (l : List Int) (h8 : ∀ x ∈ l, (Lit.int .u8 x).wf = true) (hn : l.length ≤ 140737488351232) : ∃ r, laws_at.f l 0 9000 = some r ∧ 0 ≤ r ∧ r < 9000 := by
  have rdb : ∀ i : Int, 0 ≤ rd l i ∧ rd l i ≤ 255 := by
    intro i
    unfold rd
    rw [List.getD_eq_getElem?_getD]
    rcases Nat.lt_or_ge i.toNat l.length with hi | hi
    · rw [List.getElem?_eq_getElem hi]
      exact bounds_u8 (h8 _ (List.getElem_mem hi))
    · rw [List.getElem?_eq_none hi]; simp
  unfold laws_at.f
  rw [if_neg (by omega)]
  by_cases h0 : (l.length : Int) = 0
  · rw [if_pos h0, if_neg (by omega)]
    exact ⟨_, rfl, by rw [show wrap64 (0 * 7) = 0 from by unfold wrap64; omega]; decide, by rw [show wrap64 (0 * 7) = 0 from by unfold wrap64; omega]; decide⟩
  · have hp : 0 < (l.length : Int) := by omega
    have hw1 : wrap64 (0 + 1) = 1 := by unfold wrap64; omega
    rw [if_neg h0, hw1]
    have b0 := tmod_nonneg_small 0 _ hp (by omega)
    have b1 := tmod_nonneg_small 1 _ hp (by omega)
    rw [if_pos b0.1, if_pos b0.2, if_pos b1.1, if_pos b1.2, if_neg (by omega)]
    refine ⟨_, rfl, ?_⟩
    have r0 := rdb (Int.tmod 0 (l.length : Int))
    have r1 := rdb (Int.tmod 1 (l.length : Int))
    have d0 : Int.tdiv 0 (l.length : Int) = 0 := Int.zero_tdiv _
    rw [d0]
    generalize rd l (Int.tmod 0 (l.length : Int)) = p at *
    generalize rd l (Int.tmod 1 (l.length : Int)) = q at *
    have w1 : wrap64 p = p := by unfold wrap64; omega
    have w2 : wrap64 q = q := by unfold wrap64; omega
    have w0 : wrap64 0 = 0 := by unfold wrap64; omega
    rw [w1, w2, w0]
    have w3 : wrap64 (p * 31) = p * 31 := by unfold wrap64; omega
    rw [w3]
    have w4 : wrap64 (p * 31 + q) = p * 31 + q := by unfold wrap64; omega
    rw [w4]
    have w5 : wrap64 (p * 31 + q + 0) = p * 31 + q := by unfold wrap64; omega
    rw [w5]
    exact tmod_nonneg_small _ _ (by omega) (by omega)
theorem round (k : Nat) (t i : Int) (h0 : 0 ≤ t) (h1 : t < 9000) (hi : i = 0 ∨ i = 1 ∨ i = 2) : laws_FnAlign.l0 (k + 1) t i = laws_FnAlign.l0 k t (i + 1) := by
  have m5 : Int.tmod t 5 = t % 5 := Int.tmod_eq_emod_of_nonneg h0
  have m20 : Int.tmod t 20 = t % 20 := Int.tmod_eq_emod_of_nonneg h0
  have hz' : t ≤ 100000 := by omega
  rcases hi with rfl | rfl | rfl
  · have e : wrap64 t = t := by unfold wrap64; omega
    have w1 : wrap64 1 = 1 := by unfold wrap64; omega
    have e2 : wrap64 (t + 1) = t + 1 := by unfold wrap64; omega
    have e3 : Int.tmod t 1 = 0 := Int.tmod_one t
    simp [laws_FnAlign.l0, impl_WidthOf.f, impl_KeepOf.f, spec_KeepOf.f, impl_AlignDown.f, impl_isTier.f, impl_within.f, impl_width.f, impl_keep.f, spec_l04Tier.f, spec_l01In.f, spec_l04Keep.f, rd, h0, hz', e3, e, e2, w1]
    intro h; omega
  · have e : wrap64 (t - t % 5) = t - t % 5 := by unfold wrap64; omega
    have e2 : wrap64 (t - t % 5 + 5) = t - t % 5 + 5 := by unfold wrap64; omega
    have e3 : Int.tmod (t - t % 5) 5 = 0 := by rw [Int.tmod_eq_emod_of_nonneg (by omega)]; omega
    simp only [laws_FnAlign.l0, impl_WidthOf.f, impl_KeepOf.f, spec_KeepOf.f, impl_AlignDown.f, impl_isTier.f, impl_within.f, impl_width.f, impl_keep.f, spec_l04Tier.f, spec_l01In.f, spec_l04Keep.f]
    simp [rd, h0, hz', m5, e]
    rw [e3, if_pos rfl, if_neg (by omega), e2, if_neg (by omega)]
    rw [show wrap64 2 = 2 from by unfold wrap64; omega]
  · have e : wrap64 (t - t % 20) = t - t % 20 := by unfold wrap64; omega
    have e2 : wrap64 (t - t % 20 + 20) = t - t % 20 + 20 := by unfold wrap64; omega
    have e3 : Int.tmod (t - t % 20) 20 = 0 := by rw [Int.tmod_eq_emod_of_nonneg (by omega)]; omega
    simp only [laws_FnAlign.l0, impl_WidthOf.f, impl_KeepOf.f, spec_KeepOf.f, impl_AlignDown.f, impl_isTier.f, impl_within.f, impl_width.f, impl_keep.f, spec_l04Tier.f, spec_l01In.f, spec_l04Keep.f]
    simp [rd, h0, hz', m20, e]
    rw [e3, if_pos rfl, if_neg (by omega), e2, if_neg (by omega)]
    rw [show wrap64 3 = 3 from by unfold wrap64; omega]
theorem FnAlign : laws_FnAlign.Pure := by
  intro l ⟨_, hn, h8⟩
  refine ⟨4, ?_⟩
  unfold laws_FnAlign.f
  by_cases hs : (l.length : Int) > 1048576
  · rw [if_pos hs]
  · rw [if_neg hs]
    obtain ⟨t, ht, h0, h1⟩ := at_some l h8 (by omega)
    rw [ht]
    simp only [Option.bind_some]
    rw [round 3 t 0 h0 h1 (by omega), round 2 t (0 + 1) h0 h1 (by omega), round 1 t (0 + 1 + 1) h0 h1 (by omega)]
    simp [laws_FnAlign.l0]

end Go.Proofs.Ytodmgklagfabaaa.Pure
