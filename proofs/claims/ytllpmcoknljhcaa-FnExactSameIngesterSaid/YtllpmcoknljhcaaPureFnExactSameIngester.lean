/- The pure law of FnExactSameIngester: what the printed functions compute answers true for every input of the kinds and sizes that the statement gives. -/
import Derived.Test.YtllpmcoknljhcaaKinFnExactSameIngester
namespace Go.Proofs.Ytllpmcoknljhcaa.Pure
open Go.RowKit Go.Proofs.YtllpmcoknljhcaaW.PrintWords Go.Proofs.YtllpmcoknljhcaaW.PrintLast Go.Proofs.Ytllpmcoknljhcaa.XFnExactSameIngester

-- BODY
/-- list places, as the printed loops spell them -/
theorem cast_wrap {i n : Nat} (h : i < n) (hn : n ≤ 140737488351232) : wrap64 ((i : Int) + 1) = ((i + 1 : Nat) : Int) := by unfold wrap64; omega
theorem take_set_succ {α : Type} (l : List α) (i : Nat) (v : α) (h : i < l.length) : (l.set i v).take (i + 1) = l.take i ++ [v] := by
  rw [List.take_succ_eq_append_getElem (by simpa using h)]
  simp only [List.take_set, List.getElem_set_self]
  rw [List.set_eq_of_length_le (by simp; omega)]
theorem rd137_at (l : List S137) (i : Nat) (h : i < l.length) : rd_T137 l (i : Int) = l[i] := by
  unfold rd_T137; rw [Int.toNat_natCast, List.getD_eq_getElem?_getD, List.getElem?_eq_getElem h]; rfl
theorem rd139_at (l : List S139) (i : Nat) (h : i < l.length) : rd_T139 l (i : Int) = l[i] := by
  unfold rd_T139; rw [Int.toNat_natCast, List.getD_eq_getElem?_getD, List.getElem?_eq_getElem h]; rfl
def cvSample (x : S139) : S137 := ⟨x.f0, x.f1⟩
theorem toSampleS_loop (l : List S139) (hl : l.length ≤ 1048576) (d : Nat) : ∀ (k i : Nat) (x : List S137), x.length = l.length → i ≤ l.length → l.length - i = d → d < k →
    laws_toSampleS.l0 k l x (i : Int) = some (x.take i ++ (l.drop i).map cvSample) := by
  induction d with
  | zero =>
    intro k i x hx hi hd hk
    obtain ⟨k, rfl⟩ : ∃ m, k = m + 1 := ⟨k - 1, by omega⟩
    obtain rfl : i = l.length := by omega
    simp only [laws_toSampleS.l0]
    rw [if_neg (by omega), List.drop_length, List.map_nil, List.append_nil, ← hx, List.take_length]
  | succ d ih =>
    intro k i x hx hi hd hk
    obtain ⟨k, rfl⟩ : ∃ m, k = m + 1 := ⟨k - 1, by omega⟩
    have hlt : i < l.length := by omega
    simp only [laws_toSampleS.l0, laws_toSample.f, Option.bind_some]
    rw [if_pos (by omega), if_pos (by omega), if_pos (by omega), rd139_at l i hlt, cast_wrap hlt (by omega), ih k (i + 1) _ (by simpa using hx) (by omega) (by omega) (by omega), Int.toNat_natCast, take_set_succ _ _ _ (by omega),
      List.drop_eq_getElem_cons hlt, List.map_cons, List.append_assoc]
    rfl
theorem toSampleS_eq (l : List S139) (hl : l.length ≤ 1048576) (k : Nat) (hk : l.length < k) : laws_toSampleS.f k l = some (l.map cvSample) := by
  unfold laws_toSampleS.f
  rw [if_pos (by omega), if_pos (by omega)]
  have := toSampleS_loop l hl l.length k 0 (List.replicate ((l.length : Int)).toNat z137) (by simp) (by omega) (by omega) hk
  refine Eq.trans this ?_
  simp
theorem eqSample_same (x0 : Int) (x1 : Int) : laws_eqSample.f x0 x1 x0 x1 = some true := by simp [laws_eqSample.f]
theorem eqSampleS_loop (a : List S137) (hl : a.length ≤ 1048576) (d : Nat) : ∀ (k i : Nat), i ≤ a.length → a.length - i = d → d < k → laws_eqSampleS.l0 k a a (i : Int) = some true := by
  induction d with
  | zero =>
    intro k i hi hd hk
    obtain ⟨k, rfl⟩ : ∃ m, k = m + 1 := ⟨k - 1, by omega⟩
    simp only [laws_eqSampleS.l0]
    rw [if_neg (by omega)]
  | succ d ih =>
    intro k i hi hd hk
    obtain ⟨k, rfl⟩ : ∃ m, k = m + 1 := ⟨k - 1, by omega⟩
    have hlt : i < a.length := by omega
    simp only [laws_eqSampleS.l0]
    rw [if_pos (by omega), if_pos (by omega), if_pos (by omega), eqSample_same, cast_wrap hlt (by omega), ih k (i + 1) (by omega) (by omega) (by omega)]
    simp
theorem eqSampleS_same (a : List S137) (hl : a.length ≤ 1048576) (k : Nat) (hk : a.length < k) : laws_eqSampleS.f k a a = some true := by
  unfold laws_eqSampleS.f
  rw [if_pos rfl]
  exact eqSampleS_loop a hl a.length k 0 (by omega) (by omega) hk
theorem szSampleS_tot (l : List S139) (a : Int) (h0 : 0 ≤ a) (h1 : a ≤ 1048576) (hl : l.length ≤ 140737488351232) : laws_szSampleS.f l a = some (if a - l.length < 0 then -1 else a - l.length) := by
  unfold laws_szSampleS.f
  have hw : wrap64 (a - (l.length : Int)) = a - (l.length : Int) := by unfold wrap64; omega
  rw [hw]
  by_cases h : a - (l.length : Int) < 0
  · rw [if_pos h, if_pos h]
  · rw [if_neg h, if_neg h]
theorem eq_loops (a b : List S137) (hl : a.length = b.length) (hb : a.length ≤ 1048576) (p0 p1 p2 p3 q0 q1 q2 q3 : Int) (p5 q5 : Bool) (d : Nat) : ∀ (k i : Nat), i ≤ a.length → a.length - i = d → d < k →
    ∃ r, spec_SameIngester.l0 k (i : Int) p0 p1 p2 p3 a p5 q0 q1 q2 q3 b q5 = some r ∧ impl_Sample.l0 k a b (a.length : Int) (i : Int) = some r := by
  induction d with
  | zero =>
    intro k i hi hd hk
    obtain ⟨k, rfl⟩ : ∃ m, k = m + 1 := ⟨k - 1, by omega⟩
    simp only [spec_SameIngester.l0, impl_Sample.l0]
    rw [if_neg (by omega), if_neg (by omega)]
    exact ⟨_, rfl, rfl⟩
  | succ d ih =>
    intro k i hi hd hk
    obtain ⟨k, rfl⟩ : ∃ m, k = m + 1 := ⟨k - 1, by omega⟩
    have hlt : i < a.length := by omega
    obtain ⟨r, h1, h2⟩ := ih k (i + 1) (by omega) (by omega) (by omega)
    have e1 : ((i : Int) < (a.length : Int)) = True := eq_true (by omega)
    have e2 : ((i : Int) < (b.length : Int)) = True := eq_true (by omega)
    have e3 : ((0 : Int) ≤ (i : Int)) = True := eq_true (by omega)
    simp only [spec_SameIngester.l0, impl_Sample.l0, e1, e2, e3, if_true, cast_wrap hlt (by omega : a.length ≤ 140737488351232), h1, h2]
    split
    · exact ⟨_, rfl, rfl⟩
    · exact ⟨_, rfl, rfl⟩
theorem equal_tot (a b : List S137) (hb : a.length ≤ 1048576) (k : Nat) (hk : 1048577 < k) : ∃ r, impl_Sample.f k a b = some r ∧ (∀ p0 p1 p2 p3 q0 q1 q2 q3 p5 q5, ∀ j, j + 1 = k → spec_SameIngester.j0 k ((a.length : Int) != (b.length : Int)) p0 p1 p2 p3 a p5 q0 q1 q2 q3 b q5 = some r) := by
  unfold impl_Sample.f
  by_cases h : (a.length : Int) = (b.length : Int)
  · rw [if_pos h]
    obtain ⟨r, _, h2⟩ := eq_loops a b (by omega) hb 0 0 0 0 0 0 0 0 false false a.length k 0 (by omega) (by omega) (by omega)
    refine ⟨r, h2, ?_⟩
    rintro p0 p1 p2 p3 q0 q1 q2 q3 p5 q5 j rfl
    obtain ⟨r', h1', h2'⟩ := eq_loops a b (by omega) hb p0 p1 p2 p3 q0 q1 q2 q3 p5 q5 a.length j 0 (by omega) (by omega) (by omega)
    have h3 : impl_Sample.l0 (j + 1) a b (a.length : Int) ((0 : Nat) : Int) = some r' := (impl_Sample.mono_l j) a b _ _ r' h2'
    rw [h3] at h2
    obtain rfl : r' = r := Option.some.inj h2
    have hne : ((a.length : Int) != (b.length : Int)) = false := by simp [h]
    simp only [spec_SameIngester.j0, hne]
    simpa using h1'
  · rw [if_neg h]
    refine ⟨false, rfl, ?_⟩
    rintro p0 p1 p2 p3 q0 q1 q2 q3 p5 q5 j rfl
    have hne : ((a.length : Int) != (b.length : Int)) = true := by simp [h]
    simp only [spec_SameIngester.j0, hne]
    rfl
theorem same_eq (a b : List S137) (hb : a.length ≤ 1048576) (p0 p1 p2 p3 q0 q1 q2 q3 : Int) (p5 q5 : Bool) (k : Nat) (hk : 1048578 < k) :
    ∃ r, spec_SameIngester.f k p0 p1 p2 p3 a p5 q0 q1 q2 q3 b q5 = some r ∧ impl_SameIngester.f k p0 p1 p2 p3 a p5 q0 q1 q2 q3 b q5 = some r := by
  obtain ⟨r, h1, h2⟩ := equal_tot a b hb k (by omega)
  have h2 := h2 p0 p1 p2 p3 q0 q1 q2 q3 p5 q5 (k - 1) (by omega)
  have ht : spec_SameIngester.j0 k true p0 p1 p2 p3 a p5 q0 q1 q2 q3 b q5 = some false := by
    obtain ⟨j, rfl⟩ : ∃ j, k = j + 1 := ⟨k - 1, by omega⟩
    simp [spec_SameIngester.j0]
  unfold spec_SameIngester.f impl_SameIngester.f
  simp only [ht, h1, h2, Option.bind_some]
  by_cases c0 : p0 = q0
  · by_cases c1 : p1 = q1
    · by_cases c2 : p2 = q2
      · by_cases c3 : p3 = q3
        · rw [if_pos c0, if_pos c1, if_pos c2, if_pos c3, if_pos c0, if_pos c1, if_pos c2, if_pos c3]
          cases p5 <;> cases q5 <;> cases r <;> simp
        · exact ⟨false, by simp [c0, c1, c2, c3], by simp [c0, c1, c2, c3]⟩
      · exact ⟨false, by simp [c0, c1, c2], by simp [c0, c1, c2]⟩
    · exact ⟨false, by simp [c0, c1], by simp [c0, c1]⟩
  · exact ⟨false, by simp [c0], by simp [c0]⟩
theorem FnExactSameIngester : laws_FnExactSameIngester.Pure := by
  intro p0 p1 p2 p3 a p5 q0 q1 q2 q3 b q5 _ _ _ _ ⟨_, ha, _⟩ _ _ _ _ ⟨_, hb, _⟩
  obtain ⟨k, hk⟩ : ∃ k : Nat, k = 2000000 := ⟨_, rfl⟩
  refine ⟨k, ?_⟩
  have s1 := szSampleS_tot a 1048576 (by omega) (by omega) (by omega)
  unfold laws_FnExactSameIngester.f laws_szIngester.f
  rw [s1]
  simp only [Option.bind_some]
  by_cases ca : (1048576 : Int) - a.length < 0
  · rw [if_pos ca]; simp
  rw [if_neg ca]
  have s2 := szSampleS_tot b (1048576 - a.length) (by omega) (by omega) (by omega)
  simp only [ca, if_false, Option.bind_some, s2]
  by_cases cb : (1048576 : Int) - a.length - b.length < 0
  · rw [if_pos cb]; simp
  rw [if_neg cb]
  have la : (a.map cvSample).length = a.length := by simp
  have lb : (b.map cvSample).length = b.length := by simp
  obtain ⟨r, h1, h2⟩ := same_eq (a.map cvSample) (b.map cvSample) (by omega) p0 p1 p2 p3 q0 q1 q2 q3 p5 q5 k (by omega)
  simp only [cb, if_false, Option.bind_some, laws_toIngester.f, toSampleS_eq a (by omega) k (by omega), toSampleS_eq b (by omega) k (by omega), h1, h2, laws_eqIngester.f,
    eqSampleS_same (a.map cvSample) (by omega) k (by omega), eqSampleS_same (b.map cvSample) (by omega) k (by omega)]
  cases p5 <;> cases q5 <;> cases r <;> simp

end Go.Proofs.Ytllpmcoknljhcaa.Pure
