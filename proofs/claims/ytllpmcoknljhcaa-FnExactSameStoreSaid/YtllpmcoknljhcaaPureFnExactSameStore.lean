/- The pure law of FnExactSameStore: what the printed functions compute answers true for every input of the kinds and sizes that the statement gives. -/
import Derived.Test.YtllpmcoknljhcaaKinFnExactSameStore
namespace Go.Proofs.Ytllpmcoknljhcaa.Pure
open Go.RowKit Go.Proofs.YtllpmcoknljhcaaW.PrintWords Go.Proofs.YtllpmcoknljhcaaW.PrintLast Go.Proofs.Ytllpmcoknljhcaa.XFnExactSameStore
set_option linter.unusedSimpArgs false
set_option linter.unusedVariables false

-- BODY
/-- list places, as the printed loops spell them -/
theorem cast_wrap {i n : Nat} (h : i < n) (hn : n ≤ 140737488351232) : wrap64 ((i : Int) + 1) = ((i + 1 : Nat) : Int) := by unfold wrap64; omega
theorem take_set_succ {α : Type} (l : List α) (i : Nat) (v : α) (h : i < l.length) : (l.set i v).take (i + 1) = l.take i ++ [v] := by
  rw [List.take_succ_eq_append_getElem (by simpa using h)]
  simp only [List.take_set, List.getElem_set_self]
  rw [List.set_eq_of_length_le (by simp; omega)]
theorem rd148_at (l : List S148) (i : Nat) (h : i < l.length) : rd_T148 l (i : Int) = l[i] := by
  unfold rd_T148; rw [Int.toNat_natCast, List.getD_eq_getElem?_getD, List.getElem?_eq_getElem h]; rfl
theorem rd190_at (l : List S190) (i : Nat) (h : i < l.length) : rd_T190 l (i : Int) = l[i] := by
  unfold rd_T190; rw [Int.toNat_natCast, List.getD_eq_getElem?_getD, List.getElem?_eq_getElem h]; rfl
def cvObject (x : S190) : S148 := ⟨x.f0, x.f1, x.f2⟩
theorem toObjectS_loop (l : List S190) (hl : l.length ≤ 1048576) (d : Nat) : ∀ (k i : Nat) (x : List S148), x.length = l.length → i ≤ l.length → l.length - i = d → d < k →
    laws_toObjectS.l0 k l x (i : Int) = some (x.take i ++ (l.drop i).map cvObject) := by
  induction d with
  | zero =>
    intro k i x hx hi hd hk
    obtain ⟨k, rfl⟩ : ∃ m, k = m + 1 := ⟨k - 1, by omega⟩
    obtain rfl : i = l.length := by omega
    simp only [laws_toObjectS.l0]
    rw [if_neg (by omega), List.drop_length, List.map_nil, List.append_nil, ← hx, List.take_length]
  | succ d ih =>
    intro k i x hx hi hd hk
    obtain ⟨k, rfl⟩ : ∃ m, k = m + 1 := ⟨k - 1, by omega⟩
    have hlt : i < l.length := by omega
    simp only [laws_toObjectS.l0, laws_toObject.f, Option.bind_some]
    rw [if_pos (by omega), if_pos (by omega), if_pos (by omega), rd190_at l i hlt, cast_wrap hlt (by omega), ih k (i + 1) _ (by simpa using hx) (by omega) (by omega) (by omega), Int.toNat_natCast, take_set_succ _ _ _ (by omega),
      List.drop_eq_getElem_cons hlt, List.map_cons, List.append_assoc]
    rfl
theorem toObjectS_eq (l : List S190) (hl : l.length ≤ 1048576) (k : Nat) (hk : l.length < k) : laws_toObjectS.f k l = some (l.map cvObject) := by
  unfold laws_toObjectS.f
  rw [if_pos (by omega), if_pos (by omega)]
  have := toObjectS_loop l hl l.length k 0 (List.replicate ((l.length : Int)).toNat z148) (by simp) (by omega) (by omega) hk
  refine Eq.trans this ?_
  simp
theorem eqObject_same (x0 : ByteArray) (x1 : Int) (x2 : ByteArray) : laws_eqObject.f x0 x1 x2 x0 x1 x2 = some true := by simp [laws_eqObject.f]
theorem eqObjectS_loop (a : List S148) (hl : a.length ≤ 1048576) (d : Nat) : ∀ (k i : Nat), i ≤ a.length → a.length - i = d → d < k → laws_eqObjectS.l0 k a a (i : Int) = some true := by
  induction d with
  | zero =>
    intro k i hi hd hk
    obtain ⟨k, rfl⟩ : ∃ m, k = m + 1 := ⟨k - 1, by omega⟩
    simp only [laws_eqObjectS.l0]
    rw [if_neg (by omega)]
  | succ d ih =>
    intro k i hi hd hk
    obtain ⟨k, rfl⟩ : ∃ m, k = m + 1 := ⟨k - 1, by omega⟩
    have hlt : i < a.length := by omega
    simp only [laws_eqObjectS.l0]
    rw [if_pos (by omega), if_pos (by omega), if_pos (by omega), eqObject_same, cast_wrap hlt (by omega), ih k (i + 1) (by omega) (by omega) (by omega)]
    simp
theorem eqObjectS_same (a : List S148) (hl : a.length ≤ 1048576) (k : Nat) (hk : a.length < k) : laws_eqObjectS.f k a a = some true := by
  unfold laws_eqObjectS.f
  rw [if_pos rfl]
  exact eqObjectS_loop a hl a.length k 0 (by omega) (by omega) hk
theorem szObject_tot (x0 : ByteArray) (x1 : Int) (x2 : ByteArray) (a : Int) (h0 : 0 ≤ a) (h1 : a ≤ 1048576) (hs0 : x0.size ≤ 140737488351232) (hs1 : x2.size ≤ 140737488351232) : ∃ r, laws_szObject.f x0 x1 x2 a = some r ∧ (0 ≤ r → r ≤ a ∧ (x0.size : Int) ≤ a ∧ (x2.size : Int) ≤ a) := by
  unfold laws_szObject.f
  have w0 : wrap64 (a - (x0.size : Int)) = a - (x0.size : Int) := by unfold wrap64; omega
  have w1 : wrap64 (a - (x0.size : Int) - (x2.size : Int)) = a - (x0.size : Int) - (x2.size : Int) := by unfold wrap64; omega
  simp only [w0, w1]
  by_cases c0 : a - (x0.size : Int) < 0
  · rw [if_pos c0]; exact ⟨-1, rfl, fun h => by omega⟩
  rw [if_neg c0]
  by_cases c1 : a - (x0.size : Int) - (x2.size : Int) < 0
  · rw [if_pos c1]; exact ⟨-1, rfl, fun h => by omega⟩
  rw [if_neg c1]
  exact ⟨_, rfl, fun _ => by omega⟩
theorem szObjectS_loop (l : List S190) (hl : l.length ≤ 1048576) (hs : ∀ x ∈ l, x.f0.size ≤ 140737488351232 ∧ x.f2.size ≤ 140737488351232) (d : Nat) : ∀ (k i : Nat) (a : Int), i ≤ l.length → l.length - i = d → d < k → 0 ≤ a → a ≤ 1048576 → ∃ r, laws_szObjectS.l0 k l a (i : Int) = some r ∧ (0 ≤ r → r ≤ a ∧ ∀ j (h : j < l.length), i ≤ j → ((l[j].f0).size : Int) ≤ a ∧ ((l[j].f2).size : Int) ≤ a) := by
  induction d with
  | zero =>
    intro k i a hi hd hk h0 h1
    obtain ⟨k, rfl⟩ : ∃ m, k = m + 1 := ⟨k - 1, by omega⟩
    simp only [laws_szObjectS.l0]
    rw [if_neg (by omega)]
    exact ⟨a, rfl, fun _ => ⟨Int.le_refl _, fun j h hj => by omega⟩⟩
  | succ d ih =>
    intro k i a hi hd hk h0 h1
    obtain ⟨k, rfl⟩ : ∃ m, k = m + 1 := ⟨k - 1, by omega⟩
    have hlt : i < l.length := by omega
    have hsi := hs l[i] (List.getElem_mem hlt)
    obtain ⟨r, hr, hb⟩ := szObject_tot l[i].f0 l[i].f1 l[i].f2 a h0 h1 hsi.1 hsi.2
    simp only [laws_szObjectS.l0]
    rw [if_pos (by omega), if_pos (by omega), rd190_at l i hlt, hr]
    simp only [Option.bind_some]
    by_cases hn : r < 0
    · rw [if_pos hn]; exact ⟨-1, rfl, fun h => by omega⟩
    · rw [if_neg hn, cast_wrap hlt (by omega)]
      have hb' := hb (by omega)
      obtain ⟨q, hq, hqb⟩ := ih k (i + 1) r (by omega) (by omega) (by omega) (by omega) (by omega)
      refine ⟨q, hq, fun h => ⟨by have := hqb h; omega, fun j hj hij => ?_⟩⟩
      have hqb' := hqb h
      by_cases e : j = i
      · subst e; omega
      · have := hqb'.2 j hj (by omega)
        omega
theorem szObjectS_tot (l : List S190) (hs : ∀ x ∈ l, x.f0.size ≤ 140737488351232 ∧ x.f2.size ≤ 140737488351232) (a : Int) (h0 : 0 ≤ a) (h1 : a ≤ 1048576) (hl : l.length ≤ 140737488351232) (k : Nat) (hk : 1048577 < k) : ∃ r, laws_szObjectS.f k l a = some r ∧ (0 ≤ r → r ≤ a ∧ (l.length : Int) ≤ a ∧ ∀ x ∈ l, ((x.f0).size : Int) ≤ a ∧ ((x.f2).size : Int) ≤ a) := by
  unfold laws_szObjectS.f
  have hw : wrap64 (a - (l.length : Int)) = a - (l.length : Int) := by unfold wrap64; omega
  rw [hw]
  by_cases h : a - (l.length : Int) < 0
  · rw [if_pos h]; exact ⟨-1, rfl, fun h => by omega⟩
  · rw [if_neg h]
    obtain ⟨r, hr, hb⟩ := szObjectS_loop l (by omega) hs l.length k 0 (a - l.length) (by omega) (by omega) (by omega) (by omega) (by omega)
    refine ⟨r, hr, fun h => ?_⟩
    have hb' := hb h
    refine ⟨by omega, by omega, fun x hx => ?_⟩
    obtain ⟨j, hj, rfl⟩ := List.getElem_of_mem hx
    have := hb'.2 j hj (by omega)
    omega
theorem eq_loops (a b : List S148) (hl : a.length = b.length) (hb : a.length ≤ 1048576) (p1 : Int) (q1 : Int) (d : Nat) : ∀ (k i : Nat), i ≤ a.length → a.length - i = d → d < k →
    ∃ r, spec_SameStore.l0 k (i : Int) a p1 b q1 = some r ∧ impl_Object.l0 k a b (a.length : Int) (i : Int) = some r := by
  induction d with
  | zero =>
    intro k i hi hd hk
    obtain ⟨k, rfl⟩ : ∃ m, k = m + 1 := ⟨k - 1, by omega⟩
    simp only [spec_SameStore.l0, impl_Object.l0]
    rw [if_neg (by omega), if_neg (by omega)]
    exact ⟨_, rfl, rfl⟩
  | succ d ih =>
    intro k i hi hd hk
    obtain ⟨k, rfl⟩ : ∃ m, k = m + 1 := ⟨k - 1, by omega⟩
    have hlt : i < a.length := by omega
    obtain ⟨r, h1, h2⟩ := ih k (i + 1) (by omega) (by omega) (by omega)
    have e1 : ((i : Int) < (a.length : Int)) = True := eq_true (by omega)
    have e2 : ((i : Int) < (b.length : Int)) = True := eq_true (by omega)
    have e3 : ((0 : Int) ≤ (i : Int)) = True := eq_true (by omega)
    simp only [spec_SameStore.l0, impl_Object.l0, e1, e2, e3, if_true, cast_wrap hlt (by omega : a.length ≤ 140737488351232), h1, h2]
    split
    · exact ⟨_, rfl, rfl⟩
    · exact ⟨_, rfl, rfl⟩
theorem equal_tot (a b : List S148) (hb : a.length ≤ 1048576) (k : Nat) (hk : 1048577 < k) : ∃ r, impl_Object.f k a b = some r ∧ (∀ p1 q1, ∀ j, j + 1 = k → spec_SameStore.j0 k ((a.length : Int) != (b.length : Int)) a p1 b q1 = some r) := by
  unfold impl_Object.f
  by_cases h : (a.length : Int) = (b.length : Int)
  · rw [if_pos h]
    obtain ⟨r, _, h2⟩ := eq_loops a b (by omega) hb 0 0 a.length k 0 (by omega) (by omega) (by omega)
    refine ⟨r, h2, ?_⟩
    rintro p1 q1 j rfl
    obtain ⟨r', h1', h2'⟩ := eq_loops a b (by omega) hb p1 q1 a.length j 0 (by omega) (by omega) (by omega)
    have h3 : impl_Object.l0 (j + 1) a b (a.length : Int) ((0 : Nat) : Int) = some r' := (impl_Object.mono_l j) a b _ _ r' h2'
    rw [h3] at h2
    obtain rfl : r' = r := Option.some.inj h2
    have hne : ((a.length : Int) != (b.length : Int)) = false := by simp [h]
    simp only [spec_SameStore.j0, hne]
    simpa using h1'
  · rw [if_neg h]
    refine ⟨false, rfl, ?_⟩
    rintro p1 q1 j rfl
    have hne : ((a.length : Int) != (b.length : Int)) = true := by simp [h]
    simp only [spec_SameStore.j0, hne]
    rfl
theorem same_eq (a b : List S148) (hb : a.length ≤ 1048576) (p1 : Int) (q1 : Int) (k : Nat) (hk : 1048578 < k) :
    ∃ r, spec_SameStore.f k a p1 b q1 = some r ∧ impl_SameStore.f k a p1 b q1 = some r := by
  obtain ⟨r, h1, h2⟩ := equal_tot a b hb k (by omega)
  have h2 := h2 p1 q1 (k - 1) (by omega)
  have ht : spec_SameStore.j0 k true a p1 b q1 = some false := by
    obtain ⟨j, rfl⟩ : ∃ j, k = j + 1 := ⟨k - 1, by omega⟩
    simp [spec_SameStore.j0]
  unfold spec_SameStore.f impl_SameStore.f
  simp only [ht, h1, h2, Option.bind_some]
  by_cases c1 : p1 = q1
  · have hc1 := eq_true c1
    simp only [hc1, if_true]
    cases r <;> simp [c1]
  · have hn1 := eq_false c1
    refine ⟨false, ?_, ?_⟩
    · simp [hn1]
    · cases r <;> simp [hn1]
theorem FnExactSameStore : laws_FnExactSameStore.Pure := by
  intro a p1 b q1 ⟨_, ha, sa⟩ _ ⟨_, hb, sb⟩ _
  obtain ⟨k, hk⟩ : ∃ k : Nat, k = 2000000 := ⟨_, rfl⟩
  refine ⟨k, ?_⟩
  obtain ⟨r1, s1, b1⟩ := szObjectS_tot a (fun x hx => ⟨(sa x hx).1, (sa x hx).2.2⟩) 1048576 (by omega) (by omega) (by omega) k (by omega)
  unfold laws_FnExactSameStore.f laws_szStore.f
  rw [s1]
  simp only [Option.bind_some]
  by_cases ca : r1 < 0
  · simp [ca]
  have b1 := b1 (by omega)
  obtain ⟨r2, s2, b2⟩ := szObjectS_tot b (fun x hx => ⟨(sb x hx).1, (sb x hx).2.2⟩) r1 (by omega) (by omega) (by omega) k (by omega)
  simp only [ca, if_false, Option.bind_some, s2]
  by_cases cb : r2 < 0
  · simp [cb]
  have b2 := b2 (by omega)
  have la : (a.map cvObject).length = a.length := by simp
  have lb : (b.map cvObject).length = b.length := by simp
  obtain ⟨r, h1, h2⟩ := same_eq (a.map cvObject) (b.map cvObject) (by omega) p1 q1 k (by omega)
  simp only [cb, if_false, Option.bind_some, laws_toStore.f, toObjectS_eq a (by omega) k (by omega), toObjectS_eq b (by omega) k (by omega), h1, h2, laws_eqStore.f,
    eqObjectS_same (a.map cvObject) (by omega) k (by omega), eqObjectS_same (b.map cvObject) (by omega) k (by omega)]
  cases r <;> simp

end Go.Proofs.Ytllpmcoknljhcaa.Pure
