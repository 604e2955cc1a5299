/- The pure law of FnExactActOK: what the printed functions compute answers true for every input of the kinds and sizes that the statement gives. -/
import Derived.Test.YtllpmcoknljhcaaKinFnExactActOK
namespace Go.Proofs.Ytllpmcoknljhcaa.Pure
open Go.RowKit Go.Proofs.YtllpmcoknljhcaaW.PrintWords Go.Proofs.YtllpmcoknljhcaaW.PrintLast Go.Proofs.Ytllpmcoknljhcaa.XFnExactActOK

-- BODY
/-- list places, as the printed loops spell them -/
theorem cast_wrap {i n : Nat} (h : i < n) (hn : n ≤ 140737488351232) : wrap64 ((i : Int) + 1) = ((i + 1 : Nat) : Int) := by unfold wrap64; omega
theorem take_set_succ {α : Type} (l : List α) (i : Nat) (v : α) (h : i < l.length) : (l.set i v).take (i + 1) = l.take i ++ [v] := by
  rw [List.take_succ_eq_append_getElem (by simpa using h)]
  simp only [List.take_set, List.getElem_set_self]
  rw [List.set_eq_of_length_le (by simp; omega)]
theorem rd137_at (l : List S137) (i : Nat) (h : i < l.length) : rd_T137 l (i : Int) = l[i] := by
  unfold rd_T137; rw [Int.toNat_natCast, List.getD_eq_getElem?_getD, List.getElem?_eq_getElem h]; rfl
theorem rd139_at (l : List S139) (i : Nat) (h : i < l.length) : rd_T139 l (i : Int) = l[i] := by
  unfold rd_T139; rw [Int.toNat_natCast, List.getD_eq_getElem?_getD, List.getElem?_eq_getElem h]; rfl
def cvSample (x : S139) : S137 := ⟨x.f0, x.f1⟩
theorem toSampleS_loop (l : List S139) (hl : l.length ≤ 1048576) (d : Nat) : ∀ (k i : Nat) (x : List S137), x.length = l.length → i ≤ l.length → l.length - i = d → d < k →
    laws_toSampleS.l0 k l x (i : Int) = some (x.take i ++ (l.drop i).map cvSample) := by
  induction d with
  | zero =>
    intro k i x hx hi hd hk
    obtain ⟨k, rfl⟩ : ∃ m, k = m + 1 := ⟨k - 1, by omega⟩
    obtain rfl : i = l.length := by omega
    simp only [laws_toSampleS.l0]
    rw [if_neg (by omega), List.drop_length, List.map_nil, List.append_nil, ← hx, List.take_length]
  | succ d ih =>
    intro k i x hx hi hd hk
    obtain ⟨k, rfl⟩ : ∃ m, k = m + 1 := ⟨k - 1, by omega⟩
    have hlt : i < l.length := by omega
    simp only [laws_toSampleS.l0, laws_toSample.f, Option.bind_some]
    rw [if_pos (by omega), if_pos (by omega), if_pos (by omega), rd139_at l i hlt, cast_wrap hlt (by omega), ih k (i + 1) _ (by simpa using hx) (by omega) (by omega) (by omega), Int.toNat_natCast, take_set_succ _ _ _ (by omega),
      List.drop_eq_getElem_cons hlt, List.map_cons, List.append_assoc]
    rfl
theorem toSampleS_eq (l : List S139) (hl : l.length ≤ 1048576) (k : Nat) (hk : l.length < k) : laws_toSampleS.f k l = some (l.map cvSample) := by
  unfold laws_toSampleS.f
  rw [if_pos (by omega), if_pos (by omega)]
  have := toSampleS_loop l hl l.length k 0 (List.replicate ((l.length : Int)).toNat z137) (by simp) (by omega) (by omega) hk
  refine Eq.trans this ?_
  simp
theorem eqSample_same (x0 : Int) (x1 : Int) : laws_eqSample.f x0 x1 x0 x1 = some true := by simp [laws_eqSample.f]
theorem eqSampleS_loop (a : List S137) (hl : a.length ≤ 1048576) (d : Nat) : ∀ (k i : Nat), i ≤ a.length → a.length - i = d → d < k → laws_eqSampleS.l0 k a a (i : Int) = some true := by
  induction d with
  | zero =>
    intro k i hi hd hk
    obtain ⟨k, rfl⟩ : ∃ m, k = m + 1 := ⟨k - 1, by omega⟩
    simp only [laws_eqSampleS.l0]
    rw [if_neg (by omega)]
  | succ d ih =>
    intro k i hi hd hk
    obtain ⟨k, rfl⟩ : ∃ m, k = m + 1 := ⟨k - 1, by omega⟩
    have hlt : i < a.length := by omega
    simp only [laws_eqSampleS.l0]
    rw [if_pos (by omega), if_pos (by omega), if_pos (by omega), eqSample_same, cast_wrap hlt (by omega), ih k (i + 1) (by omega) (by omega) (by omega)]
    simp
theorem eqSampleS_same (a : List S137) (hl : a.length ≤ 1048576) (k : Nat) (hk : a.length < k) : laws_eqSampleS.f k a a = some true := by
  unfold laws_eqSampleS.f
  rw [if_pos rfl]
  exact eqSampleS_loop a hl a.length k 0 (by omega) (by omega) hk
theorem szSampleS_tot (l : List S139) (a : Int) (h0 : 0 ≤ a) (h1 : a ≤ 1048576) (hl : l.length ≤ 140737488351232) : laws_szSampleS.f l a = some (if a - l.length < 0 then -1 else a - l.length) := by
  unfold laws_szSampleS.f
  have hw : wrap64 (a - (l.length : Int)) = a - (l.length : Int) := by unfold wrap64; omega
  rw [hw]
  by_cases h : a - (l.length : Int) < 0
  · rw [if_pos h, if_pos h]
  · rw [if_neg h, if_neg h]
theorem within_eq (a b c : Int) : impl_within.f a b c = some (decide (b ≤ a) && decide (a ≤ c)) := by
  unfold impl_within.f; by_cases h : b ≤ a <;> simp [h]
theorem in_eq (a b c : Int) : spec_l01In.f a b c = some (decide (b ≤ a) && decide (a ≤ c)) := by
  unfold spec_l01In.f; by_cases h : b ≤ a <;> simp [h]
/-- a right sample -/
def smp (x : S137) : Bool := (decide (0 ≤ x.f0) && decide (x.f0 ≤ 99999)) && (decide (-1000000 ≤ x.f1) && decide (x.f1 ≤ 1000000))
/-- right samples from place i on: each is right, and later than the one ahead of it -/
def rise (l : List S137) (i : Nat) : Bool := (List.range l.length).all fun j => decide (j < i) || (smp (l.getD j z137) && (decide (j = 0) || decide ((l.getD (j - 1) z137).f0 < (l.getD j z137).f0)))
theorem rise_end (l : List S137) : rise l l.length = true := by
  unfold rise
  rw [List.all_eq_true]
  intro j hj
  simp [List.mem_range.1 hj]
theorem rise_step (l : List S137) (i : Nat) (h : i < l.length) : rise l i = ((smp l[i] && (decide (i = 0) || decide ((l.getD (i - 1) z137).f0 < l[i].f0))) && rise l (i + 1)) := by
  have e : l.getD i z137 = l[i] := by rw [List.getD_eq_getElem?_getD, List.getElem?_eq_getElem h]; rfl
  rw [Bool.eq_iff_iff]
  unfold rise
  rw [Bool.and_eq_true, List.all_eq_true, List.all_eq_true]
  constructor
  · intro hh
    refine ⟨?_, fun j hj => ?_⟩
    · have := hh i (List.mem_range.2 h)
      rw [e] at this
      simpa using this
    · by_cases hji : j < i + 1
      · simp [hji]
      · have h1 : ¬ j < i := by omega
        have := hh j hj
        simp only [h1, hji, decide_false, Bool.false_or] at *
        exact this
  · rintro ⟨h1, h2⟩ j hj
    by_cases hji : j < i
    · simp [hji]
    · by_cases hje : j = i
      · subst hje; rw [e]; simpa using h1
      · have := h2 j hj
        have hn : ¬ j < i + 1 := by omega
        simp only [hn, decide_false, Bool.false_or] at this
        simp only [hji, decide_false, Bool.false_or]
        exact this
theorem sok_loops (l : List S137) (hl : l.length ≤ 1048576) (d : Nat) : ∀ (k i : Nat), i ≤ l.length → l.length - i = d → d < k →
    spec_SamplesOK.l0 k l (i : Int) = some (rise l i) ∧ impl_SamplesOK.l0 k l l (l.length : Int) (i : Int) = some (rise l i) := by
  induction d with
  | zero =>
    intro k i hi hd hk
    obtain ⟨k, rfl⟩ : ∃ m, k = m + 1 := ⟨k - 1, by omega⟩
    obtain rfl : i = l.length := by omega
    simp only [spec_SamplesOK.l0, impl_SamplesOK.l0]
    rw [if_neg (by omega), if_neg (by omega), rise_end]
    exact ⟨rfl, rfl⟩
  | succ d ih =>
    intro k i hi hd hk
    obtain ⟨k, rfl⟩ : ∃ m, k = m + 1 := ⟨k - 1, by omega⟩
    have hlt : i < l.length := by omega
    obtain ⟨h1, h2⟩ := ih k (i + 1) (by omega) (by omega) (by omega)
    have e1 : ((i : Int) < (l.length : Int)) = True := eq_true (by omega)
    have e3 : ((0 : Int) ≤ (i : Int)) = True := eq_true (by omega)
    simp only [spec_SamplesOK.l0, impl_SamplesOK.l0, spec_l02Sample.f, impl_isMoment.f, impl_isValue.f, within_eq, in_eq, Option.bind_some, e1, e3, if_true]
    rw [rd137_at l i hlt, cast_wrap hlt (by omega), h1, h2, rise_step l i hlt]
    rcases Nat.eq_zero_or_pos i with h0 | h0
    · subst h0
      unfold smp
      cases (decide (0 ≤ l[0].f0) && decide (l[0].f0 ≤ 99999)) <;> cases (decide (-1000000 ≤ l[0].f1) && decide (l[0].f1 ≤ 1000000)) <;> simp
    · have hw : wrap64 ((i : Int) - 1) = ((i - 1 : Nat) : Int) := by unfold wrap64; omega
      have hp : ((i : Int) > 0) = True := eq_true (by omega)
      have hz : (0 : Int) ≤ ((i - 1 : Nat) : Int) := by omega
      have hq : ((i - 1 : Nat) : Int) < (l.length : Int) := by omega
      have hi0 : decide (i = 0) = false := decide_eq_false (by omega)
      have e1 : rd_T137 l ((i - 1 : Nat) : Int) = l.getD (i - 1) z137 := by unfold rd_T137; rw [Int.toNat_natCast]
      rw [hw, e1, hi0, Bool.false_or]
      simp only [hp, if_true, if_pos hz, if_pos hq]
      unfold smp
      generalize (l.getD (i - 1) z137).f0 = p
      generalize l[i].f0 = q
      generalize (decide (-1000000 ≤ l[i].f1) && decide (l[i].f1 ≤ 1000000)) = b
      generalize (decide (0 ≤ q) && decide (q ≤ 99999)) = a
      generalize rise l (i + 1) = r
      by_cases hpq : p < q
      · have e2 : ¬ p ≥ q := by omega
        have e3 : ¬ q ≤ p := by omega
        cases a <;> cases b <;> simp [hpq, e3]
      · have e2 : p ≥ q := by omega
        cases a <;> cases b <;> simp [hpq, e2]
def sokB (l : List S137) : Bool := !decide ((l.length : Int) > 4096) && rise l 0
theorem sok_eq (l : List S137) (hl : l.length ≤ 1048576) (k : Nat) (hk : l.length < k) : spec_SamplesOK.f k l = some (sokB l) ∧ impl_SamplesOK.f k l = some (sokB l) := by
  obtain ⟨h1, h2⟩ := sok_loops l hl l.length k 0 (by omega) (by omega) hk
  unfold spec_SamplesOK.f impl_SamplesOK.f impl_Sample.f sokB
  simp only [Option.bind_some]
  have e : ((0 : Nat) : Int) = 0 := rfl
  rw [e] at h1 h2
  rw [h1, h2]
  by_cases h : (l.length : Int) > 4096
  · simp [h]
  · simp [h]
theorem range_same (a b : Int) : ∃ r, spec_l04Range.f a b = some r ∧ impl_isRange.f a b = some r := by
  unfold spec_l04Range.f impl_isRange.f
  simp only [in_eq, Option.bind_some]
  by_cases h1 : 0 ≤ a
  · by_cases h2 : a ≤ b
    · by_cases h3 : b ≤ 100000
      · have h4 : a ≤ 100000 := by omega
        exact ⟨true, by simp [h1, h2, h3, h4], by simp [h1, h2, h3]⟩
      · refine ⟨false, ?_, by simp [h1, h2, h3]⟩
        by_cases h4 : a ≤ 100000 <;> simp [h1, h3, h4]
    · refine ⟨false, ?_, by simp [h1, h2]⟩
      by_cases h4 : a ≤ 100000 <;> simp [h1, h2, h4]
  · exact ⟨false, by simp [h1], by simp [h1]⟩
theorem j1_same (k : Nat) (l : List S137) (hl : l.length ≤ 1048576) (hk : l.length < k) (x3 b : Bool) (e v0 v1 v2 v3 v4 v5 : Int) :
    ∃ r, spec_ActOK.j1 (k + 1) x3 e b v0 v1 v2 v3 v4 v5 l = some r ∧ impl_ActOK.j1 (k + 1) x3 ((l.length : Int) == 0) e b v0 v1 v2 v3 v4 v5 l = some r := by
  obtain ⟨h1, h2⟩ := sok_eq l hl k hk
  obtain ⟨g, h3, h4⟩ := range_same v4 v5
  simp only [spec_ActOK.j1, impl_ActOK.j1, impl_isActor.f, impl_isSkew.f, impl_isIngester.f, impl_isReader.f, impl_isTier.f, spec_l04Tier.f, within_eq, in_eq, Option.bind_some, h1, h2, h3, h4]
  generalize ((l.length : Int) == 0) = z
  generalize (decide (1 ≤ (l.length : Int)) && decide ((l.length : Int) ≤ 8)) = n
  generalize sokB l = s
  generalize (decide (0 ≤ v1) && decide (v1 ≤ 6)) = a1
  generalize (decide (2 ≤ v1) && decide (v1 ≤ 3)) = a2
  generalize (decide (4 ≤ v1) && decide (v1 ≤ 5)) = a3
  generalize (decide (0 ≤ v2) && decide (v2 ≤ 1000)) = a4
  generalize (decide (-3 ≤ v2) && decide (v2 ≤ 3)) = a5
  generalize (decide (0 ≤ v3) && decide (v3 ≤ 2)) = a6
  cases b with
  | true => by_cases hv : v2 = 0 <;> cases a1 <;> cases x3 <;> simp [hv]
  | false =>
    by_cases e3 : e = 3
    · by_cases hv : v1 = 0 <;> cases a4 <;> cases x3 <;> simp [hv, e3]
    · by_cases e4 : e = 4
      · cases a1 <;> cases a5 <;> cases x3 <;> simp [e4]
      · by_cases e5 : e = 5
        · by_cases hv : v2 = 0 <;> cases a2 <;> cases x3 <;> cases s <;> cases n <;> simp [hv, e5]
        · by_cases e6 : e = 6
          · by_cases hv : v2 = 0 <;> cases a3 <;> cases a6 <;> cases g <;> simp [hv, e6]
          · simp [e3, e4, e5, e6]
theorem ok_same (k : Nat) (l : List S137) (hl : l.length ≤ 1048576) (hk : l.length + 2 < k) (v0 v1 v2 v3 v4 v5 : Int) :
    ∃ r, spec_ActOK.f k v0 v1 v2 v3 v4 v5 l = some r ∧ impl_ActOK.f k v0 v1 v2 v3 v4 v5 l = some r := by
  obtain ⟨k, rfl⟩ : ∃ m, k = m + 2 := ⟨k - 2, by omega⟩
  have hj : ∀ x3, ∃ r, spec_ActOK.j0 (k + 2) x3 v0 v1 v2 v3 v4 v5 l = some r ∧ impl_ActOK.j0 (k + 2) x3 ((l.length : Int) == 0) v0 v1 v2 v3 v4 v5 l = some r := by
    intro x3
    simp only [spec_ActOK.j0, impl_ActOK.j0]
    by_cases h : v0 = 1
    · rw [if_pos h, if_pos h]; exact j1_same k l hl (by omega) _ _ _ _ _ _ _ _ _
    · rw [if_neg h, if_neg h]; exact j1_same k l hl (by omega) _ _ _ _ _ _ _ _ _
  unfold spec_ActOK.f impl_ActOK.f
  by_cases h3 : v3 = 0
  · rw [if_pos h3, if_pos h3]
    by_cases h4 : v4 = 0
    · rw [if_pos h4, if_pos h4]; exact hj _
    · rw [if_neg h4, if_neg h4]; exact hj _
  · rw [if_neg h3, if_neg h3]; exact hj _
theorem FnExactActOK : laws_FnExactActOK.Pure := by
  intro v0 v1 v2 v3 v4 v5 l _ _ _ _ _ _ ⟨hm, hn, _⟩
  obtain ⟨k, hk⟩ : ∃ k : Nat, k = 3000000 := ⟨_, rfl⟩
  refine ⟨k, ?_⟩
  unfold laws_FnExactActOK.f laws_szAct.f
  rw [szSampleS_tot l 1048576 (by omega) (by omega) (by omega)]
  by_cases hs : (1048576 : Int) - (l.length : Int) < 0
  · rw [if_pos hs]; simp
  · rw [if_neg hs]
    have hl : l.length ≤ 1048576 := by omega
    have hc : (l.map cvSample).length = l.length := by simp
    obtain ⟨r, h1, h2⟩ := ok_same k (l.map cvSample) (by omega) (by omega) v0 v1 v2 v3 v4 v5
    simp only [Option.bind_some, laws_toAct.f, toSampleS_eq l hl k (by omega), h1, h2, laws_eqAct.f, eqSampleS_same (l.map cvSample) (by omega) k (by omega), hs, if_false, if_true]
    simp

end Go.Proofs.Ytllpmcoknljhcaa.Pure
