/- The pure law of FnExactGiveBatch: what the printed functions compute answers true for every input of the kinds and sizes that the statement gives. -/
import Derived.Test.YteiolcfgaklafaaKinFnExactGiveBatch
namespace Go.Proofs.Yteiolcfgaklafaa.Pure
open Go.RowKit Go.Proofs.YteiolcfgaklafaaW.PrintWords Go.Proofs.YteiolcfgaklafaaW.PrintLast Go.Proofs.Yteiolcfgaklafaa.XFnExactGiveBatch
set_option linter.unusedSimpArgs false
set_option linter.unusedVariables false

-- BODY
/-- list places, as the printed loops spell them -/
theorem cast_wrap {i n : Nat} (h : i < n) (hn : n ≤ 140737488351232) : wrap64 ((i : Int) + 1) = ((i + 1 : Nat) : Int) := by unfold wrap64; omega
theorem take_set_succ {α : Type} (l : List α) (i : Nat) (v : α) (h : i < l.length) : (l.set i v).take (i + 1) = l.take i ++ [v] := by
  rw [List.take_succ_eq_append_getElem (by simpa using h)]
  simp only [List.take_set, List.getElem_set_self]
  rw [List.set_eq_of_length_le (by simp; omega)]
theorem rd137_at (l : List S94) (i : Nat) (h : i < l.length) : rd_T94 l (i : Int) = l[i] := by
  unfold rd_T94; rw [Int.toNat_natCast, List.getD_eq_getElem?_getD, List.getElem?_eq_getElem h]; rfl
theorem rd139_at (l : List S96) (i : Nat) (h : i < l.length) : rd_T96 l (i : Int) = l[i] := by
  unfold rd_T96; rw [Int.toNat_natCast, List.getD_eq_getElem?_getD, List.getElem?_eq_getElem h]; rfl
def cvSample (x : S96) : S94 := ⟨x.f0, x.f1⟩
theorem toSampleS_loop (l : List S96) (hl : l.length ≤ 1048576) (d : Nat) : ∀ (k i : Nat) (x : List S94), x.length = l.length → i ≤ l.length → l.length - i = d → d < k →
    laws_toSampleS.l0 k l x (i : Int) = some (x.take i ++ (l.drop i).map cvSample) := by
  induction d with
  | zero =>
    intro k i x hx hi hd hk
    obtain ⟨k, rfl⟩ : ∃ m, k = m + 1 := ⟨k - 1, by omega⟩
    obtain rfl : i = l.length := by omega
    simp only [laws_toSampleS.l0]
    rw [if_neg (by omega), List.drop_length, List.map_nil, List.append_nil, ← hx, List.take_length]
  | succ d ih =>
    intro k i x hx hi hd hk
    obtain ⟨k, rfl⟩ : ∃ m, k = m + 1 := ⟨k - 1, by omega⟩
    have hlt : i < l.length := by omega
    simp only [laws_toSampleS.l0, laws_toSample.f, Option.bind_some]
    rw [if_pos (by omega), if_pos (by omega), if_pos (by omega), rd139_at l i hlt, cast_wrap hlt (by omega), ih k (i + 1) _ (by simpa using hx) (by omega) (by omega) (by omega), Int.toNat_natCast, take_set_succ _ _ _ (by omega),
      List.drop_eq_getElem_cons hlt, List.map_cons, List.append_assoc]
    rfl
theorem toSampleS_eq (l : List S96) (hl : l.length ≤ 1048576) (k : Nat) (hk : l.length < k) : laws_toSampleS.f k l = some (l.map cvSample) := by
  unfold laws_toSampleS.f
  rw [if_pos (by omega), if_pos (by omega)]
  have := toSampleS_loop l hl l.length k 0 (List.replicate ((l.length : Int)).toNat z94) (by simp) (by omega) (by omega) hk
  refine Eq.trans this ?_
  simp
theorem eqSample_same (x0 : Int) (x1 : Int) : laws_eqSample.f x0 x1 x0 x1 = some true := by simp [laws_eqSample.f]
theorem eqSampleS_loop (a : List S94) (hl : a.length ≤ 1048576) (d : Nat) : ∀ (k i : Nat), i ≤ a.length → a.length - i = d → d < k → laws_eqSampleS.l0 k a a (i : Int) = some true := by
  induction d with
  | zero =>
    intro k i hi hd hk
    obtain ⟨k, rfl⟩ : ∃ m, k = m + 1 := ⟨k - 1, by omega⟩
    simp only [laws_eqSampleS.l0]
    rw [if_neg (by omega)]
  | succ d ih =>
    intro k i hi hd hk
    obtain ⟨k, rfl⟩ : ∃ m, k = m + 1 := ⟨k - 1, by omega⟩
    have hlt : i < a.length := by omega
    simp only [laws_eqSampleS.l0]
    rw [if_pos (by omega), if_pos (by omega), if_pos (by omega), eqSample_same, cast_wrap hlt (by omega), ih k (i + 1) (by omega) (by omega) (by omega)]
    simp
theorem eqSampleS_same (a : List S94) (hl : a.length ≤ 1048576) (k : Nat) (hk : a.length < k) : laws_eqSampleS.f k a a = some true := by
  unfold laws_eqSampleS.f
  rw [if_pos rfl]
  exact eqSampleS_loop a hl a.length k 0 (by omega) (by omega) hk
/-- the mark of an element -/
def mkSample (m : Int) : S94 := ⟨m, m + 1⟩
def marksSample : Nat → Int → List S94
  | 0, _ => []
  | d + 1, m => mkSample m :: marksSample d (m + 1 + 1)
theorem markSampleS_loop (d : Nat) : ∀ (k i : Nat) (l : List S94) (m : Int), i ≤ l.length → l.length - i = d → d + 20 < k → l.length ≤ 1048576 → 0 ≤ m → m + 2 * d ≤ 100000000000000 →
    laws_markSampleS.l0 k l m (i : Int) = some (m + 2 * d, l.take i ++ marksSample d m) := by
  induction d with
  | zero =>
    intro k i l m hi hd hk hl h0 hm
    obtain ⟨k, rfl⟩ : ∃ m, k = m + 1 := ⟨k - 1, by omega⟩
    obtain rfl : i = l.length := by omega
    simp only [laws_markSampleS.l0]
    rw [if_neg (by omega)]
    simp [marksSample]
  | succ d ih =>
    intro k i l m hi hd hk hl h0 hm
    obtain ⟨k, rfl⟩ : ∃ m, k = m + 1 := ⟨k - 1, by omega⟩
    have hlt : i < l.length := by omega
    have hc : ((d + 1 : Nat) : Int) = (d : Int) + 1 := by omega
    rw [hc] at hm
    have w1 : wrap64 (m + 1) = m + 1 := by unfold wrap64; omega
    have w2 : wrap64 (m + 1 + 1) = m + 1 + 1 := by unfold wrap64; omega
    have rs : ∀ (l : List S94) (v : S94), i < l.length → rd_T94 (l.set i v) (i : Int) = v := fun l v h => by rw [rd137_at _ _ (by simpa using h), List.getElem_set_self]
    simp only [laws_markSampleS.l0, Option.bind_some, Int.toNat_natCast, w1, w2]
    rw [if_pos (by omega), if_pos (by omega)]
    simp only [List.set_set, List.length_set, rs _ _ hlt, rd137_at l i hlt, cast_wrap hlt (by omega)]
    rw [ih k (i + 1) _ (m + 1 + 1) (by simp; omega) (by simp; omega) (by omega) (by simpa using hl) (by omega) (by omega), take_set_succ _ _ _ hlt, List.append_assoc]
    simp only [marksSample, List.singleton_append, Option.some.injEq, Prod.mk.injEq]
    exact ⟨by omega, rfl⟩
theorem markSampleS_eq (l : List S94) (m : Int) (k : Nat) (hk : l.length + 20 < k) (hl : l.length ≤ 1048576) (h0 : 0 ≤ m) (hm : m + 2 * l.length ≤ 100000000000000) : laws_markSampleS.f k l m = some (m + 2 * l.length, marksSample l.length m) := by
  have := markSampleS_loop l.length k 0 l m (by omega) (by omega) hk hl h0 hm
  unfold laws_markSampleS.f
  refine Eq.trans this ?_
  simp
theorem marksSample_length : ∀ (d : Nat) (m : Int), (marksSample d m).length = d
  | 0, _ => rfl
  | d + 1, m => by simp [marksSample, marksSample_length d]
theorem heldSampleS_loop (d : Nat) : ∀ (k : Nat) (p : List S94) (m : Int), d + 20 < k → p.length + d ≤ 1048576 → 0 ≤ m → m + 2 * d ≤ 100000000000000 → laws_heldSampleS.l0 k (p ++ marksSample d m) m (p.length : Int) = some (m + 2 * d) := by
  induction d with
  | zero =>
    intro k p m hk hl h0 hm
    obtain ⟨k, rfl⟩ : ∃ m, k = m + 1 := ⟨k - 1, by omega⟩
    simp only [laws_heldSampleS.l0, marksSample, List.append_nil]
    rw [if_neg (by omega)]
    simp
  | succ d ih =>
    intro k p m hk hl h0 hm
    obtain ⟨k, rfl⟩ : ∃ m, k = m + 1 := ⟨k - 1, by omega⟩
    have hc : ((d + 1 : Nat) : Int) = (d : Int) + 1 := by omega
    rw [hc] at hm
    have hlen : (p ++ marksSample (d + 1) m).length = p.length + (d + 1) := by rw [List.length_append, marksSample_length]
    have hlt : p.length < (p ++ marksSample (d + 1) m).length := by omega
    have hat : rd_T94 (p ++ marksSample (d + 1) m) (p.length : Int) = mkSample m := by rw [rd137_at _ _ hlt]; simp [marksSample]
    have w1 : wrap64 (m + 1) = m + 1 := by unfold wrap64; omega
    have w2 : wrap64 (m + 1 + 1) = m + 1 + 1 := by unfold wrap64; omega
    have hn := ih k (p ++ [mkSample m]) (m + 1 + 1) (by omega) (by simp; omega) (by omega) (by omega)
    rw [List.append_assoc, List.singleton_append, show (((p ++ [mkSample m]).length : Nat) : Int) = ((p.length + 1 : Nat) : Int) from by simp] at hn
    simp only [laws_heldSampleS.l0, Option.bind_some, w1, w2, hat]
    rw [if_pos (by omega), if_pos (by omega), cast_wrap hlt (by omega)]
    simp only [mkSample, ne_eq, not_true_eq_false, if_true, if_false]
    refine Eq.trans hn ?_
    rw [hc]
    exact congrArg some (by omega)
theorem heldSampleS_eq (n : Nat) (m : Int) (k : Nat) (hk : n + 20 < k) (hl : n ≤ 1048576) (h0 : 0 ≤ m) (hm : m + 2 * n ≤ 100000000000000) : laws_heldSampleS.f k (marksSample n m) m = some (m + 2 * n) := by
  have := heldSampleS_loop n k [] m hk (by simpa using hl) h0 hm
  unfold laws_heldSampleS.f
  exact this
theorem szSampleS_tot (l : List S96) (a : Int) (h0 : 0 ≤ a) (h1 : a ≤ 1048576) (hl : l.length ≤ 140737488351232) : laws_szSampleS.f l a = some (if a - l.length < 0 then -1 else a - l.length) := by
  unfold laws_szSampleS.f
  have hw : wrap64 (a - (l.length : Int)) = a - (l.length : Int) := by unfold wrap64; omega
  rw [hw]
  by_cases h : a - (l.length : Int) < 0
  · rw [if_pos h, if_pos h]
  · rw [if_neg h, if_neg h]
theorem within_eq (a b c : Int) : impl_within.f a b c = some (decide (b ≤ a) && decide (a ≤ c)) := by
  unfold impl_within.f; by_cases h : b ≤ a <;> simp [h]
theorem in_eq (a b c : Int) : spec_l01In.f a b c = some (decide (b ≤ a) && decide (a ≤ c)) := by
  unfold spec_l01In.f; by_cases h : b ≤ a <;> simp [h]
/-- a right sample -/
def smp (x : S94) : Bool := (decide (0 ≤ x.f0) && decide (x.f0 ≤ 99999)) && (decide (-1000000 ≤ x.f1) && decide (x.f1 ≤ 1000000))
/-- right samples from place i on: each is right, and later than the one ahead of it -/
def rise (l : List S94) (i : Nat) : Bool := (List.range l.length).all fun j => decide (j < i) || (smp (l.getD j z94) && (decide (j = 0) || decide ((l.getD (j - 1) z94).f0 < (l.getD j z94).f0)))
theorem rise_end (l : List S94) : rise l l.length = true := by
  unfold rise
  rw [List.all_eq_true]
  intro j hj
  simp [List.mem_range.1 hj]
theorem rise_step (l : List S94) (i : Nat) (h : i < l.length) : rise l i = ((smp l[i] && (decide (i = 0) || decide ((l.getD (i - 1) z94).f0 < l[i].f0))) && rise l (i + 1)) := by
  have e : l.getD i z94 = l[i] := by rw [List.getD_eq_getElem?_getD, List.getElem?_eq_getElem h]; rfl
  rw [Bool.eq_iff_iff]
  unfold rise
  rw [Bool.and_eq_true, List.all_eq_true, List.all_eq_true]
  constructor
  · intro hh
    refine ⟨?_, fun j hj => ?_⟩
    · have := hh i (List.mem_range.2 h)
      rw [e] at this
      simpa using this
    · by_cases hji : j < i + 1
      · simp [hji]
      · have h1 : ¬ j < i := by omega
        have := hh j hj
        simp only [h1, hji, decide_false, Bool.false_or] at *
        exact this
  · rintro ⟨h1, h2⟩ j hj
    by_cases hji : j < i
    · simp [hji]
    · by_cases hje : j = i
      · subst hje; rw [e]; simpa using h1
      · have := h2 j hj
        have hn : ¬ j < i + 1 := by omega
        simp only [hn, decide_false, Bool.false_or] at this
        simp only [hji, decide_false, Bool.false_or]
        exact this
theorem sok_loops (l : List S94) (hl : l.length ≤ 1048576) (d : Nat) : ∀ (k i : Nat), i ≤ l.length → l.length - i = d → d < k →
    spec_SamplesOK.l0 k l (i : Int) = some (rise l i) ∧ impl_SamplesOK.l0 k l l (l.length : Int) (i : Int) = some (rise l i) := by
  induction d with
  | zero =>
    intro k i hi hd hk
    obtain ⟨k, rfl⟩ : ∃ m, k = m + 1 := ⟨k - 1, by omega⟩
    obtain rfl : i = l.length := by omega
    simp only [spec_SamplesOK.l0, impl_SamplesOK.l0]
    rw [if_neg (by omega), if_neg (by omega), rise_end]
    exact ⟨rfl, rfl⟩
  | succ d ih =>
    intro k i hi hd hk
    obtain ⟨k, rfl⟩ : ∃ m, k = m + 1 := ⟨k - 1, by omega⟩
    have hlt : i < l.length := by omega
    obtain ⟨h1, h2⟩ := ih k (i + 1) (by omega) (by omega) (by omega)
    have e1 : ((i : Int) < (l.length : Int)) = True := eq_true (by omega)
    have e3 : ((0 : Int) ≤ (i : Int)) = True := eq_true (by omega)
    simp only [spec_SamplesOK.l0, impl_SamplesOK.l0, spec_l02Sample.f, impl_isMoment.f, impl_isValue.f, within_eq, in_eq, Option.bind_some, e1, e3, if_true]
    rw [rd137_at l i hlt, cast_wrap hlt (by omega), h1, h2, rise_step l i hlt]
    rcases Nat.eq_zero_or_pos i with h0 | h0
    · subst h0
      unfold smp
      cases (decide (0 ≤ l[0].f0) && decide (l[0].f0 ≤ 99999)) <;> cases (decide (-1000000 ≤ l[0].f1) && decide (l[0].f1 ≤ 1000000)) <;> simp
    · have hw : wrap64 ((i : Int) - 1) = ((i - 1 : Nat) : Int) := by unfold wrap64; omega
      have hp : ((i : Int) > 0) = True := eq_true (by omega)
      have hz : (0 : Int) ≤ ((i - 1 : Nat) : Int) := by omega
      have hq : ((i - 1 : Nat) : Int) < (l.length : Int) := by omega
      have hi0 : decide (i = 0) = false := decide_eq_false (by omega)
      have e1 : rd_T94 l ((i - 1 : Nat) : Int) = l.getD (i - 1) z94 := by unfold rd_T94; rw [Int.toNat_natCast]
      rw [hw, e1, hi0, Bool.false_or]
      simp only [hp, if_true, if_pos hz, if_pos hq]
      unfold smp
      generalize (l.getD (i - 1) z94).f0 = p
      generalize l[i].f0 = q
      generalize (decide (-1000000 ≤ l[i].f1) && decide (l[i].f1 ≤ 1000000)) = b
      generalize (decide (0 ≤ q) && decide (q ≤ 99999)) = a
      generalize rise l (i + 1) = r
      by_cases hpq : p < q
      · have e2 : ¬ p ≥ q := by omega
        have e3 : ¬ q ≤ p := by omega
        cases a <;> cases b <;> simp [hpq, e3]
      · have e2 : p ≥ q := by omega
        cases a <;> cases b <;> simp [hpq, e2]
def sokB (l : List S94) : Bool := !decide ((l.length : Int) > 4096) && rise l 0
theorem sok_eq (l : List S94) (hl : l.length ≤ 1048576) (k : Nat) (hk : l.length < k) : spec_SamplesOK.f k l = some (sokB l) ∧ impl_SamplesOK.f k l = some (sokB l) := by
  obtain ⟨h1, h2⟩ := sok_loops l hl l.length k 0 (by omega) (by omega) hk
  unfold spec_SamplesOK.f impl_SamplesOK.f impl_Sample_52.f sokB
  simp only [Option.bind_some]
  have e : ((0 : Nat) : Int) = 0 := rfl
  rw [e] at h1 h2
  rw [h1, h2]
  by_cases h : (l.length : Int) > 4096
  · simp [h]
  · simp [h]
theorem first2 (k : Nat) (b1 b2 : Bool) (c1 c2 : Int) : impl_first.f (k + 3) [anyB b1, anyI c1, anyB b2, anyI c2] = some (if b1 = true then c1 else if b2 = true then c2 else 0) := by
  have w1 : wrap64 1 = 1 := by unfold wrap64; omega
  have w2 : wrap64 2 = 2 := by unfold wrap64; omega
  have w3 : wrap64 3 = 3 := by unfold wrap64; omega
  have w4 : wrap64 4 = 4 := by unfold wrap64; omega
  have w5 : wrap64 5 = 5 := by unfold wrap64; omega
  cases b1 <;> cases b2 <;> simp [impl_first.f, impl_first.l0, w1, w2, w3, w4, w5, rdOf, anyAsB, anyAsI]
theorem first3 (k : Nat) (b1 b2 b3 : Bool) (c1 c2 c3 : Int) : impl_first.f (k + 4) [anyB b1, anyI c1, anyB b2, anyI c2, anyB b3, anyI c3] = some (if b1 = true then c1 else if b2 = true then c2 else if b3 = true then c3 else 0) := by
  have w1 : wrap64 1 = 1 := by unfold wrap64; omega
  have w2 : wrap64 2 = 2 := by unfold wrap64; omega
  have w3 : wrap64 3 = 3 := by unfold wrap64; omega
  have w4 : wrap64 4 = 4 := by unfold wrap64; omega
  have w5 : wrap64 5 = 5 := by unfold wrap64; omega
  have w6 : wrap64 6 = 6 := by unfold wrap64; omega
  have w7 : wrap64 7 = 7 := by unfold wrap64; omega
  cases b1 <;> cases b2 <;> cases b3 <;> simp [impl_first.f, impl_first.l0, w1, w2, w3, w4, w5, w6, w7, rdOf, anyAsB, anyAsI]
theorem ok_same (k : Nat) (l : List S94) (hl : l.length ≤ 1048576) (hk : l.length + 2 < k) (v0 v1 v2 v3 : Int) (p : Bool) :
    ∃ r, spec_IngesterOK.f k v0 v1 v2 v3 l p = some r ∧ impl_IngesterOK.f k v0 v1 v2 v3 l p = some r ∧ (r = true → l.length = 0 → p = false ∧ v1 = 0 ∧ v2 = 0 ∧ v3 = 0) := by
  obtain ⟨h1, h2⟩ := sok_eq l hl k (by omega)
  unfold spec_IngesterOK.f impl_IngesterOK.f impl_isId.f
  have hw : wrap64 ((l.length : Int) - 1) = (l.length : Int) - 1 := by unfold wrap64; omega
  simp only [within_eq, in_eq, Option.bind_some, h1, h2, hw]
  cases (decide (0 ≤ v0) && decide (v0 ≤ 9)) with
  | false => exact ⟨false, by simp, by simp, by simp⟩
  | true =>
    cases sokB l with
    | false => exact ⟨false, by simp, by simp, by simp⟩
    | true =>
      simp only [if_true]
      by_cases h8 : (l.length : Int) > 8
      · exact ⟨false, by rw [if_pos h8], by rw [if_pos h8], by simp⟩
      · simp only [if_neg h8]
        cases p with
        | false =>
          by_cases e1 : v1 = 0
          · by_cases e2 : v2 = 0
            · refine ⟨v3 == 0, by simp [e1, e2], by simp [e1, e2], fun h _ => ⟨rfl, e1, e2, by simpa using h⟩⟩
            · exact ⟨false, by simp [e1, e2], by simp [e1, e2], by simp⟩
          · exact ⟨false, by simp [e1], by simp [e1], by simp⟩
        | true =>
          by_cases h : (l.length : Int) > 0
          · have e2 : (0 : Int) ≤ (l.length : Int) - 1 := by omega
            have e3 : (l.length : Int) - 1 < (l.length : Int) := by omega
            have e1 : (0 : Int) < (l.length : Int) := h
            simp only [if_true, if_pos h, if_pos e1, if_pos e2, if_pos e3]
            generalize (decide (1 ≤ v1) && decide (v1 ≤ 999999)) = a1
            generalize (decide (0 ≤ v2) && decide (v2 ≤ (rd_T94 l 0).f0)) = a2
            have hn : ¬ l.length = 0 := by omega
            cases a1 with
            | false => exact ⟨false, by simp, by simp, by simp⟩
            | true =>
              cases a2 with
              | false => exact ⟨false, by simp, by simp, by simp⟩
              | true => exact ⟨(v3 == wrap64 ((rd_T94 l ((l.length : Int) - 1)).f0 + 1)), by simp only [if_true], by simp only [if_true], fun _ h0 => absurd h0 hn⟩
          · exact ⟨false, by simp only [if_true]; rw [if_neg h], by simp only [if_true]; rw [if_neg h], by simp⟩
theorem clone_eq (l : List S94) (h : l.length ≤ 1048576) : impl_Sample_90.f l = some l := by
  unfold impl_Sample_90.f
  simp only [Option.bind_some, List.length_nil, List.nil_append]
  rw [if_pos (by omega)]
theorem own_eq (v0 v1 v2 v3 : Int) (l : List S94) (p : Bool) (h : l.length ≤ 1048576) : spec_l09Own.f v0 v1 v2 v3 l p = some (v0, v1, v2, v3, l, p) := by
  unfold spec_l09Own.f
  simp only [Option.bind_some, List.length_nil, List.nil_append]
  rw [if_pos (by omega)]
theorem gb_same (k : Nat) (l l1 : List S94) (hl : l.length ≤ 1048576) (hl1 : l1.length ≤ 1048576) (hk : l.length + 9 < k) (hk1 : l1.length + 9 < k) (v0 v1 v2 v3 : Int) (p : Bool) :
    ∃ r0 r1 r2 r3 rl rp rc, spec_GiveBatch.f k v0 v1 v2 v3 l p l1 = some (r0, r1, r2, r3, rl, rp, rc) ∧ impl_GiveBatch.f k v0 v1 v2 v3 l p l1 = some (r0, r1, r2, r3, rl, rp, rc) ∧ rl.length ≤ 1048576 := by
  obtain ⟨k, rfl⟩ : ∃ m, k = m + 4 := ⟨k - 4, by omega⟩
  obtain ⟨b, h1, h2, h3⟩ := ok_same (k + 4) l hl (by omega) v0 v1 v2 v3 p
  obtain ⟨h4, h5⟩ := sok_eq l1 hl1 (k + 4) (by omega)
  unfold spec_GiveBatch.f impl_GiveBatch.f impl_Sample_52.f impl_Ingester_give.f impl_Ingester_copied.f
  simp only [Option.bind_some, h1, h2, h4, h5, spec_GiveBatch.j0, within_eq, in_eq, first3, own_eq _ _ _ _ l _ hl, own_eq _ _ _ _ l1 _ hl1, clone_eq l hl, clone_eq l1 hl1]
  by_cases hlen : (l1.length : Int) > 4096
  · refine ⟨0, 0, 0, 0, [], false, 2, by rw [if_pos hlen], ?_, by simp⟩
    cases b <;> simp [hlen]
  · have hd : decide ((l1.length : Int) > 4096) = false := decide_eq_false hlen
    rw [hd]
    simp only [if_neg hlen]
    cases b with
    | false => exact ⟨0, 0, 0, 0, [], false, 1, by simp, by simp, by simp⟩
    | true =>
      cases sokB l1 with
      | false => exact ⟨0, 0, 0, 0, [], false, 1, by simp, by simp, by simp⟩
      | true =>
        generalize (decide ((1 : Int) ≤ (l1.length : Int)) && decide ((l1.length : Int) ≤ 8)) = q
        cases q with
        | false => exact ⟨0, 0, 0, 0, [], false, 8, by simp, by simp, by simp⟩
        | true =>
          by_cases h : (l.length : Int) > 0
          · exact ⟨v0, v1, v2, v3, l, p, 9, by simp only [Bool.not_true, Bool.false_eq_true, if_false, if_true, if_pos h], by simp only [Bool.not_true, Bool.false_eq_true, if_false, if_true, if_pos h, Option.bind_some, clone_eq l hl], hl⟩
          · obtain ⟨rfl, rfl, rfl, rfl⟩ := h3 rfl (by omega)
            exact ⟨v0, 0, 0, 0, l1, false, 0, by simp only [Bool.not_true, Bool.false_eq_true, if_false, if_true, if_neg h], by simp only [Bool.not_true, Bool.false_eq_true, if_false, if_true, if_neg h, Option.bind_some, clone_eq l1 hl1], hl1⟩
theorem FnExactGiveBatch : laws_FnExactGiveBatch.Pure := by
  intro v0 v1 v2 v3 l p l1 _ _ _ _ ⟨hm, hn, _⟩ ⟨hm1, hn1, _⟩
  obtain ⟨k, hk⟩ : ∃ k : Nat, k = 3000000 := ⟨_, rfl⟩
  refine ⟨k + 1 + 1, ?_⟩
  unfold laws_FnExactGiveBatch.f laws_szIngester.f
  rw [szSampleS_tot l 1048576 (by omega) (by omega) (by omega)]
  by_cases hs : (1048576 : Int) - (l.length : Int) < 0
  · rw [if_pos hs]; simp
  · rw [if_neg hs]
    simp only [Option.bind_some, if_neg hs]
    rw [szSampleS_tot l1 _ (by omega) (by omega) (by omega)]
    by_cases hs1 : (1048576 : Int) - (l.length : Int) - (l1.length : Int) < 0
    · rw [if_pos hs1]; simp
    · rw [if_neg hs1]
      have hl : l.length ≤ 1048576 := by omega
      have hl1 : l1.length ≤ 1048576 := by omega
      have hc : (l.map cvSample).length = l.length := by simp
      have hc1 : (l1.map cvSample).length = l1.length := by simp
      obtain ⟨r0, r1, r2, r3, rl, rp, rc, h1, h2, h3⟩ := gb_same (k + 1) (l.map cvSample) (l1.map cvSample) (by omega) (by omega) (by omega) (by omega) v0 v1 v2 v3 p
      obtain ⟨s0, s1, s2, s3, sl, sp, sc, h4, h5, h6⟩ := gb_same (k + 1 + 1) (l.map cvSample) (l1.map cvSample) (by omega) (by omega) (by omega) (by omega) v0 v1 v2 v3 p
      have e := (spec_GiveBatch.mono _ _ _ _ _ _ _ (k + 1) _ h1).symm.trans h4
      simp only [Option.some.injEq, Prod.mk.injEq] at e
      obtain ⟨rfl, rfl, rfl, rfl, rfl, rfl, rfl⟩ := e
      have hne : (rc != rc) = false := by simp
      have hpe : (p != p) = false := by simp
      have hre : (rp != rp) = false := by simp
      have hk0 : ((1 : Int) + 2 * ((l.map cvSample).length : Int) + 2 * ((l1.map cvSample).length : Int) < 0) = False := eq_false (by omega)
      have hm0 : ((1 : Int) + 2 * (rl.length : Int) < 0) = False := eq_false (by omega)
      simp only [Option.bind_some, hs1, if_false, laws_toIngester.f, toSampleS_eq l hl (k + 1 + 1) (by omega), toSampleS_eq l1 hl1 (k + 1 + 1) (by omega), h4, h5, laws_eqIngester.f, eqSampleS_same rl (by omega) (k + 1 + 1) (by omega), if_true, hne, hpe, hre, Bool.false_eq_true,
        laws_FnExactGiveBatch.j0, toSampleS_eq l hl (k + 1) (by omega), toSampleS_eq l1 hl1 (k + 1) (by omega), eqSampleS_same (l.map cvSample) (by omega) (k + 1) (by omega), eqSampleS_same (l1.map cvSample) (by omega) (k + 1) (by omega), laws_markIngester.f,
        markSampleS_eq (l.map cvSample) 1 (k + 1) (by omega) (by omega) (by omega) (by omega), markSampleS_eq (l1.map cvSample) (1 + 2 * ((l.map cvSample).length : Int)) (k + 1) (by omega) (by omega) (by omega) (by omega), hk0, eqSampleS_same rl (by omega) (k + 1) (by omega),
        laws_FnExactGiveBatch.j1, laws_heldIngester.f, toSampleS_eq l hl k (by omega), toSampleS_eq l1 hl1 k (by omega), markSampleS_eq rl 1 k (by omega) (by omega) (by omega) (by omega), heldSampleS_eq rl.length 1 k (by omega) (by omega) (by omega) (by omega), hm0]
      obtain ⟨t0, t1, t2, t3, tl, tp, tc, h7, h8, h9⟩ := gb_same k (l.map cvSample) (l1.map cvSample) (by omega) (by omega) (by omega) (by omega) v0 v1 v2 v3 p
      have e := (spec_GiveBatch.mono _ _ _ _ _ _ _ k _ h7).symm.trans h1
      simp only [Option.some.injEq, Prod.mk.injEq] at e
      obtain ⟨rfl, rfl, rfl, rfl, rfl, rfl, rfl⟩ := e
      simp only [h8, Option.bind_some, eqSampleS_same tl (by omega) k (by omega), if_true, hre, Bool.false_eq_true, if_false, hm0]

end Go.Proofs.Yteiolcfgaklafaa.Pure
