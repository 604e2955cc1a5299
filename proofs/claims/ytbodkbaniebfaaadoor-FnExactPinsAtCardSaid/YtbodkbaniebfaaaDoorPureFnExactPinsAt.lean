/- The pure law of FnExactPinsAt: what the printed functions compute answers true for every input of the kinds and sizes that the statement gives. -/
import Derived.Test.YtbodkbaniebfaaaDoorKinFnExactPinsAt
import Derived.Lib.AtoiAllCases
import Derived.Lib.ItoaLen
import Derived.Lib.SplitLaws
import Derived.Lib.AtoiAllCases
import Derived.Lib.ItoaLen
import Derived.Lib.SplitLaws
import Derived.Lib.AtoiAllCases
import Derived.Lib.ItoaLen
import Derived.Lib.SplitLaws
namespace Go.Proofs.YtbodkbaniebfaaaDoor.Pure
open Go.RowKit Go.Proofs.YtbodkbaniebfaaaDoorW.PrintWords Go.Proofs.YtbodkbaniebfaaaDoorW.PrintLast Go.Proofs.YtbodkbaniebfaaaDoor.XFnExactPinsAt
set_option linter.unusedSimpArgs false
set_option linter.unusedVariables false

-- BODY
theorem within_eq (a b c : Int) : impl_within.f a b c = some (decide (b ≤ a) && decide (a ≤ c)) := by
  unfold impl_within.f; by_cases h : b ≤ a <;> simp [h]
theorem in_eq (a b c : Int) : spec_l01In.f a b c = some (decide (b ≤ a) && decide (a ≤ c)) := by
  unfold spec_l01In.f; by_cases h : b ≤ a <;> simp [h]
theorem first2 (k : Nat) (b1 b2 : Bool) (c1 c2 : Int) : impl_first.f (k + 3) [anyB b1, anyI c1, anyB b2, anyI c2] = some (if b1 = true then c1 else if b2 = true then c2 else 0) := by
  have w1 : wrap64 1 = 1 := by unfold wrap64; omega
  have w2 : wrap64 2 = 2 := by unfold wrap64; omega
  have w3 : wrap64 3 = 3 := by unfold wrap64; omega
  have w4 : wrap64 4 = 4 := by unfold wrap64; omega
  have w5 : wrap64 5 = 5 := by unfold wrap64; omega
  cases b1 <;> cases b2 <;> simp [impl_first.f, impl_first.l0, w1, w2, w3, w4, w5, rdOf, anyAsB, anyAsI]
theorem first3 (k : Nat) (b1 b2 b3 : Bool) (c1 c2 c3 : Int) : impl_first.f (k + 4) [anyB b1, anyI c1, anyB b2, anyI c2, anyB b3, anyI c3] = some (if b1 = true then c1 else if b2 = true then c2 else if b3 = true then c3 else 0) := by
  have w1 : wrap64 1 = 1 := by unfold wrap64; omega
  have w2 : wrap64 2 = 2 := by unfold wrap64; omega
  have w3 : wrap64 3 = 3 := by unfold wrap64; omega
  have w4 : wrap64 4 = 4 := by unfold wrap64; omega
  have w5 : wrap64 5 = 5 := by unfold wrap64; omega
  have w6 : wrap64 6 = 6 := by unfold wrap64; omega
  have w7 : wrap64 7 = 7 := by unfold wrap64; omega
  cases b1 <;> cases b2 <;> cases b3 <;> simp [impl_first.f, impl_first.l0, w1, w2, w3, w4, w5, w6, w7, rdOf, anyAsB, anyAsI]
/-- list places, as the printed loops spell them -/
theorem cast_wrap {i n : Nat} (h : i < n) (hn : n ≤ 140737488351232) : wrap64 ((i : Int) + 1) = ((i + 1 : Nat) : Int) := by unfold wrap64; omega
theorem take_set_succ {α : Type} (l : List α) (i : Nat) (v : α) (h : i < l.length) : (l.set i v).take (i + 1) = l.take i ++ [v] := by
  rw [List.take_succ_eq_append_getElem (by simpa using h)]
  simp only [List.take_set, List.getElem_set_self]
  rw [List.set_eq_of_length_le (by simp; omega)]
theorem strOf_one (c : Int) : (strOfNums [c]).size = 1 := by rfl
theorem markText_loop (d : Nat) : ∀ (k : Nat) (x : Int) (s : ByteArray), 0 ≤ x → x ≤ 9223372036854775807 → x < 10 ^ d → d < k → s.size + d ≤ 100 → ∃ r, laws_markText.l0 k x s = some r := by
  induction d with
  | zero =>
    intro k x s h0 h2 h1 hk hs
    obtain ⟨k, rfl⟩ : ∃ m, k = m + 1 := ⟨k - 1, by omega⟩
    simp only [laws_markText.l0]
    rw [if_neg (by omega), if_pos (by omega)]
    exact ⟨_, rfl⟩
  | succ d ih =>
    intro k x s h0 h2 h1 hk hs
    obtain ⟨k, rfl⟩ : ∃ m, k = m + 1 := ⟨k - 1, by omega⟩
    simp only [laws_markText.l0, Option.bind_some]
    by_cases hx : x > 0
    · rw [if_pos hx, strOf_one, if_pos (by omega)]
      have hp : (10 : Int) ^ (d + 1) = 10 ^ d * 10 := Int.pow_succ 10 d
      rw [hp] at h1
      generalize (10 : Int) ^ d = q at *
      have hd : Int.tdiv x 10 = x / 10 := Int.tdiv_eq_ediv_of_nonneg h0
      have hw : wrap64 (Int.tdiv x 10) = x / 10 := by
        rw [hd]
        unfold wrap64
        omega
      rw [hw]
      refine ih k _ _ (by omega) (by omega) (by omega) (by omega) ?_
      rw [ByteArray.size_append, strOf_one]
      omega
    · rw [if_neg hx, if_pos (by omega)]
      exact ⟨_, rfl⟩
/-- the mark of place m -/
def mt (m : Int) : ByteArray := (laws_markText.f 20 m).getD ⟨#[]⟩
theorem mt_eq (m : Int) (h0 : 0 ≤ m) (h1 : m < 1000000000000000) (k : Nat) (hk : 20 ≤ k) : laws_markText.f k m = some (mt m) := by
  have h20 : laws_markText.f 20 m = some (mt m) := by
    have : ∃ r, laws_markText.f 20 m = some r := by
      unfold laws_markText.f
      by_cases hm : m ≤ 0
      · rw [if_pos hm]; exact ⟨_, rfl⟩
      · rw [if_neg hm]
        exact markText_loop 15 20 m _ (by omega) (by omega) (by rw [show (10 : Int) ^ 15 = 1000000000000000 by decide]; exact h1) (by omega) (by decide)
    obtain ⟨r, hr⟩ := this
    unfold mt
    rw [hr]
    rfl
  obtain ⟨d, rfl⟩ : ∃ d, k = 20 + d := ⟨k - 20, by omega⟩
  clear hk
  induction d with
  | zero => exact h20
  | succ d ih => exact laws_markText.mono m (20 + d) _ ih
theorem rd51_at (l : List S51) (i : Nat) (h : i < l.length) : rd_T51 l (i : Int) = l[i] := by
  unfold rd_T51; rw [Int.toNat_natCast, List.getD_eq_getElem?_getD, List.getElem?_eq_getElem h]; rfl
theorem rd50_at (l : List S50) (i : Nat) (h : i < l.length) : rd_T50 l (i : Int) = l[i] := by
  unfold rd_T50; rw [Int.toNat_natCast, List.getD_eq_getElem?_getD, List.getElem?_eq_getElem h]; rfl
def cvObject (x : S50) : S51 := ⟨x.f0, x.f1, x.f2⟩
theorem toObjectS_loop (l : List S50) (hl : l.length ≤ 1048576) (d : Nat) : ∀ (k i : Nat) (x : List S51), x.length = l.length → i ≤ l.length → l.length - i = d → d < k →
    laws_toObjectS.l0 k l x (i : Int) = some (x.take i ++ (l.drop i).map cvObject) := by
  induction d with
  | zero =>
    intro k i x hx hi hd hk
    obtain ⟨k, rfl⟩ : ∃ m, k = m + 1 := ⟨k - 1, by omega⟩
    obtain rfl : i = l.length := by omega
    simp only [laws_toObjectS.l0]
    rw [if_neg (by omega), List.drop_length, List.map_nil, List.append_nil, ← hx, List.take_length]
  | succ d ih =>
    intro k i x hx hi hd hk
    obtain ⟨k, rfl⟩ : ∃ m, k = m + 1 := ⟨k - 1, by omega⟩
    have hlt : i < l.length := by omega
    simp only [laws_toObjectS.l0, laws_toObject.f, Option.bind_some]
    rw [if_pos (by omega), if_pos (by omega), if_pos (by omega), rd50_at l i hlt, cast_wrap hlt (by omega), ih k (i + 1) _ (by simpa using hx) (by omega) (by omega) (by omega), Int.toNat_natCast, take_set_succ _ _ _ (by omega),
      List.drop_eq_getElem_cons hlt, List.map_cons, List.append_assoc]
    rfl
theorem toObjectS_eq (l : List S50) (hl : l.length ≤ 1048576) (k : Nat) (hk : l.length < k) : laws_toObjectS.f k l = some (l.map cvObject) := by
  unfold laws_toObjectS.f
  rw [if_pos (by omega), if_pos (by omega)]
  have := toObjectS_loop l hl l.length k 0 (List.replicate ((l.length : Int)).toNat z51) (by simp) (by omega) (by omega) hk
  refine Eq.trans this ?_
  simp
theorem eqObject_same (x0 : ByteArray) (x1 : Int) (x2 : ByteArray) : laws_eqObject.f x0 x1 x2 x0 x1 x2 = some true := by simp [laws_eqObject.f]
theorem eqObjectS_loop (a : List S51) (hl : a.length ≤ 1048576) (d : Nat) : ∀ (k i : Nat), i ≤ a.length → a.length - i = d → d < k → laws_eqObjectS.l0 k a a (i : Int) = some true := by
  induction d with
  | zero =>
    intro k i hi hd hk
    obtain ⟨k, rfl⟩ : ∃ m, k = m + 1 := ⟨k - 1, by omega⟩
    simp only [laws_eqObjectS.l0]
    rw [if_neg (by omega)]
  | succ d ih =>
    intro k i hi hd hk
    obtain ⟨k, rfl⟩ : ∃ m, k = m + 1 := ⟨k - 1, by omega⟩
    have hlt : i < a.length := by omega
    simp only [laws_eqObjectS.l0]
    rw [if_pos (by omega), if_pos (by omega), if_pos (by omega), eqObject_same, cast_wrap hlt (by omega), ih k (i + 1) (by omega) (by omega) (by omega)]
    simp
theorem eqObjectS_same (a : List S51) (hl : a.length ≤ 1048576) (k : Nat) (hk : a.length < k) : laws_eqObjectS.f k a a = some true := by
  unfold laws_eqObjectS.f
  rw [if_pos rfl]
  exact eqObjectS_loop a hl a.length k 0 (by omega) (by omega) hk
/-- the mark of an element -/
def mkObject (m : Int) : S51 := ⟨mt (m), m + 1, mt (m + 1 + 1)⟩
def marksObject : Nat → Int → List S51
  | 0, _ => []
  | d + 1, m => mkObject m :: marksObject d (m + 1 + 1 + 1)
theorem markObjectS_loop (d : Nat) : ∀ (k i : Nat) (l : List S51) (m : Int), i ≤ l.length → l.length - i = d → d + 20 < k → l.length ≤ 1048576 → 0 ≤ m → m + 3 * d ≤ 100000000000000 →
    laws_markObjectS.l0 k l m (i : Int) = some (m + 3 * d, l.take i ++ marksObject d m) := by
  induction d with
  | zero =>
    intro k i l m hi hd hk hl h0 hm
    obtain ⟨k, rfl⟩ : ∃ m, k = m + 1 := ⟨k - 1, by omega⟩
    obtain rfl : i = l.length := by omega
    simp only [laws_markObjectS.l0]
    rw [if_neg (by omega)]
    simp [marksObject]
  | succ d ih =>
    intro k i l m hi hd hk hl h0 hm
    obtain ⟨k, rfl⟩ : ∃ m, k = m + 1 := ⟨k - 1, by omega⟩
    have hlt : i < l.length := by omega
    have hc : ((d + 1 : Nat) : Int) = (d : Int) + 1 := by omega
    rw [hc] at hm
    have w1 : wrap64 (m + 1) = m + 1 := by unfold wrap64; omega
    have w2 : wrap64 (m + 1 + 1) = m + 1 + 1 := by unfold wrap64; omega
    have w3 : wrap64 (m + 1 + 1 + 1) = m + 1 + 1 + 1 := by unfold wrap64; omega
    have rs : ∀ (l : List S51) (v : S51), i < l.length → rd_T51 (l.set i v) (i : Int) = v := fun l v h => by rw [rd51_at _ _ (by simpa using h), List.getElem_set_self]
    simp only [laws_markObjectS.l0, Option.bind_some, Int.toNat_natCast, mt_eq (m) (by omega) (by omega) k (by omega), mt_eq (m + 1 + 1) (by omega) (by omega) k (by omega), w1, w2, w3]
    rw [if_pos (by omega), if_pos (by omega)]
    simp only [List.set_set, List.length_set, rs _ _ hlt, rd51_at l i hlt, cast_wrap hlt (by omega)]
    rw [ih k (i + 1) _ (m + 1 + 1 + 1) (by simp; omega) (by simp; omega) (by omega) (by simpa using hl) (by omega) (by omega), take_set_succ _ _ _ hlt, List.append_assoc]
    simp only [marksObject, List.singleton_append, Option.some.injEq, Prod.mk.injEq]
    exact ⟨by omega, rfl⟩
theorem markObjectS_eq (l : List S51) (m : Int) (k : Nat) (hk : l.length + 20 < k) (hl : l.length ≤ 1048576) (h0 : 0 ≤ m) (hm : m + 3 * l.length ≤ 100000000000000) : laws_markObjectS.f k l m = some (m + 3 * l.length, marksObject l.length m) := by
  have := markObjectS_loop l.length k 0 l m (by omega) (by omega) hk hl h0 hm
  unfold laws_markObjectS.f
  refine Eq.trans this ?_
  simp
theorem marksObject_length : ∀ (d : Nat) (m : Int), (marksObject d m).length = d
  | 0, _ => rfl
  | d + 1, m => by simp [marksObject, marksObject_length d]
theorem szObject_tot (x0 : ByteArray) (x1 : Int) (x2 : ByteArray) (a : Int) (h0 : 0 ≤ a) (h1 : a ≤ 1048576) (hs0 : x0.size ≤ 140737488351232) (hs1 : x2.size ≤ 140737488351232) : ∃ r, laws_szObject.f x0 x1 x2 a = some r ∧ (0 ≤ r → r ≤ a ∧ (x0.size : Int) ≤ a ∧ (x2.size : Int) ≤ a) := by
  unfold laws_szObject.f
  have w0 : wrap64 (a - (x0.size : Int)) = a - (x0.size : Int) := by unfold wrap64; omega
  have w1 : wrap64 (a - (x0.size : Int) - (x2.size : Int)) = a - (x0.size : Int) - (x2.size : Int) := by unfold wrap64; omega
  simp only [w0, w1]
  by_cases c0 : a - (x0.size : Int) < 0
  · rw [if_pos c0]; exact ⟨-1, rfl, fun h => by omega⟩
  rw [if_neg c0]
  by_cases c1 : a - (x0.size : Int) - (x2.size : Int) < 0
  · rw [if_pos c1]; exact ⟨-1, rfl, fun h => by omega⟩
  rw [if_neg c1]
  exact ⟨_, rfl, fun _ => by omega⟩
theorem szObjectS_loop (l : List S50) (hl : l.length ≤ 1048576) (hs : ∀ x ∈ l, x.f0.size ≤ 140737488351232 ∧ x.f2.size ≤ 140737488351232) (d : Nat) : ∀ (k i : Nat) (a : Int), i ≤ l.length → l.length - i = d → d < k → 0 ≤ a → a ≤ 1048576 → ∃ r, laws_szObjectS.l0 k l a (i : Int) = some r ∧ (0 ≤ r → r ≤ a ∧ ∀ j (h : j < l.length), i ≤ j → ((l[j].f0).size : Int) ≤ a ∧ ((l[j].f2).size : Int) ≤ a) := by
  induction d with
  | zero =>
    intro k i a hi hd hk h0 h1
    obtain ⟨k, rfl⟩ : ∃ m, k = m + 1 := ⟨k - 1, by omega⟩
    simp only [laws_szObjectS.l0]
    rw [if_neg (by omega)]
    exact ⟨a, rfl, fun _ => ⟨Int.le_refl _, fun j h hj => by omega⟩⟩
  | succ d ih =>
    intro k i a hi hd hk h0 h1
    obtain ⟨k, rfl⟩ : ∃ m, k = m + 1 := ⟨k - 1, by omega⟩
    have hlt : i < l.length := by omega
    have hsi := hs l[i] (List.getElem_mem hlt)
    obtain ⟨r, hr, hb⟩ := szObject_tot l[i].f0 l[i].f1 l[i].f2 a h0 h1 hsi.1 hsi.2
    simp only [laws_szObjectS.l0]
    rw [if_pos (by omega), if_pos (by omega), rd50_at l i hlt, hr]
    simp only [Option.bind_some]
    by_cases hn : r < 0
    · rw [if_pos hn]; exact ⟨-1, rfl, fun h => by omega⟩
    · rw [if_neg hn, cast_wrap hlt (by omega)]
      have hb' := hb (by omega)
      obtain ⟨q, hq, hqb⟩ := ih k (i + 1) r (by omega) (by omega) (by omega) (by omega) (by omega)
      refine ⟨q, hq, fun h => ⟨by have := hqb h; omega, fun j hj hij => ?_⟩⟩
      have hqb' := hqb h
      by_cases e : j = i
      · subst e; omega
      · have := hqb'.2 j hj (by omega)
        omega
theorem szObjectS_tot (l : List S50) (hs : ∀ x ∈ l, x.f0.size ≤ 140737488351232 ∧ x.f2.size ≤ 140737488351232) (a : Int) (h0 : 0 ≤ a) (h1 : a ≤ 1048576) (hl : l.length ≤ 140737488351232) (k : Nat) (hk : 1048577 < k) : ∃ r, laws_szObjectS.f k l a = some r ∧ (0 ≤ r → r ≤ a ∧ (l.length : Int) ≤ a ∧ ∀ x ∈ l, ((x.f0).size : Int) ≤ a ∧ ((x.f2).size : Int) ≤ a) := by
  unfold laws_szObjectS.f
  have hw : wrap64 (a - (l.length : Int)) = a - (l.length : Int) := by unfold wrap64; omega
  rw [hw]
  by_cases h : a - (l.length : Int) < 0
  · rw [if_pos h]; exact ⟨-1, rfl, fun h => by omega⟩
  · rw [if_neg h]
    obtain ⟨r, hr, hb⟩ := szObjectS_loop l (by omega) hs l.length k 0 (a - l.length) (by omega) (by omega) (by omega) (by omega) (by omega)
    refine ⟨r, hr, fun h => ?_⟩
    have hb' := hb h
    refine ⟨by omega, by omega, fun x hx => ?_⟩
    obtain ⟨j, hj, rfl⟩ := List.getElem_of_mem hx
    have := hb'.2 j hj (by omega)
    omega
theorem rdS_at (l : List ByteArray) (i : Nat) (h : i < l.length) : rdOf ByteArray.empty l (i : Int) = l[i] := by
  unfold rdOf; rw [Int.toNat_natCast, List.getD_eq_getElem?_getD, List.getElem?_eq_getElem h]; rfl
theorem eqStringS_loop (a : List ByteArray) (hl : a.length ≤ 1048576) (d : Nat) : ∀ (k i : Nat), i ≤ a.length → a.length - i = d → d < k → laws_eqStringS.l0 k a a (i : Int) = some true := by
  induction d with
  | zero =>
    intro k i hi hd hk
    obtain ⟨k, rfl⟩ : ∃ m, k = m + 1 := ⟨k - 1, by omega⟩
    simp only [laws_eqStringS.l0]
    rw [if_neg (by omega)]
  | succ d ih =>
    intro k i hi hd hk
    obtain ⟨k, rfl⟩ : ∃ m, k = m + 1 := ⟨k - 1, by omega⟩
    have hlt : i < a.length := by omega
    simp only [laws_eqStringS.l0]
    rw [if_pos (by omega), if_pos (by omega), if_pos (by omega), if_pos trivial, cast_wrap hlt (by omega), ih k (i + 1) (by omega) (by omega) (by omega)]
theorem eqStringS_same (a : List ByteArray) (hl : a.length ≤ 1048576) (k : Nat) (hk : a.length < k) : laws_eqStringS.f k a a = some true := by
  unfold laws_eqStringS.f
  rw [if_pos rfl]
  exact eqStringS_loop a hl a.length k 0 (by omega) (by omega) hk
/-- the mark of an element -/
def mkString (m : Int) : ByteArray := mt (m)
def marksString : Nat → Int → List ByteArray
  | 0, _ => []
  | d + 1, m => mkString m :: marksString d (m + 1)
theorem markStringS_loop (d : Nat) : ∀ (k i : Nat) (l : List ByteArray) (m : Int), i ≤ l.length → l.length - i = d → d + 20 < k → l.length ≤ 1048576 → 0 ≤ m → m + 1 * d ≤ 100000000000000 →
    laws_markStringS.l0 k l m (i : Int) = some (m + 1 * d, l.take i ++ marksString d m) := by
  induction d with
  | zero =>
    intro k i l m hi hd hk hl h0 hm
    obtain ⟨k, rfl⟩ : ∃ m, k = m + 1 := ⟨k - 1, by omega⟩
    obtain rfl : i = l.length := by omega
    simp only [laws_markStringS.l0]
    rw [if_neg (by omega)]
    simp [marksString]
  | succ d ih =>
    intro k i l m hi hd hk hl h0 hm
    obtain ⟨k, rfl⟩ : ∃ m, k = m + 1 := ⟨k - 1, by omega⟩
    have hlt : i < l.length := by omega
    have hc : ((d + 1 : Nat) : Int) = (d : Int) + 1 := by omega
    rw [hc] at hm
    have w1 : wrap64 (m + 1) = m + 1 := by unfold wrap64; omega
    have rs : ∀ (l : List ByteArray) (v : ByteArray), i < l.length → rdOf ByteArray.empty (l.set i v) (i : Int) = v := fun l v h => by rw [rdS_at _ _ (by simpa using h), List.getElem_set_self]
    simp only [laws_markStringS.l0, Option.bind_some, Int.toNat_natCast, mt_eq (m) (by omega) (by omega) k (by omega), w1]
    rw [if_pos (by omega), if_pos (by omega)]
    simp only [List.set_set, List.length_set, rs _ _ hlt, rdS_at l i hlt, cast_wrap hlt (by omega)]
    rw [ih k (i + 1) _ (m + 1) (by simp; omega) (by simp; omega) (by omega) (by simpa using hl) (by omega) (by omega), take_set_succ _ _ _ hlt, List.append_assoc]
    simp only [marksString, List.singleton_append, Option.some.injEq, Prod.mk.injEq]
    exact ⟨by omega, rfl⟩
theorem markStringS_eq (l : List ByteArray) (m : Int) (k : Nat) (hk : l.length + 20 < k) (hl : l.length ≤ 1048576) (h0 : 0 ≤ m) (hm : m + 1 * l.length ≤ 100000000000000) : laws_markStringS.f k l m = some (m + 1 * l.length, marksString l.length m) := by
  have := markStringS_loop l.length k 0 l m (by omega) (by omega) hk hl h0 hm
  unfold laws_markStringS.f
  refine Eq.trans this ?_
  simp
theorem marksString_length : ∀ (d : Nat) (m : Int), (marksString d m).length = d
  | 0, _ => rfl
  | d + 1, m => by simp [marksString, marksString_length d]
theorem heldStringS_loop (d : Nat) : ∀ (k : Nat) (p : List ByteArray) (m : Int), d + 20 < k → p.length + d ≤ 1048576 → 0 ≤ m → m + 1 * d ≤ 100000000000000 → laws_heldStringS.l0 k (p ++ marksString d m) m (p.length : Int) = some (m + 1 * d) := by
  induction d with
  | zero =>
    intro k p m hk hl h0 hm
    obtain ⟨k, rfl⟩ : ∃ m, k = m + 1 := ⟨k - 1, by omega⟩
    simp only [laws_heldStringS.l0, marksString, List.append_nil]
    rw [if_neg (by omega)]
    simp
  | succ d ih =>
    intro k p m hk hl h0 hm
    obtain ⟨k, rfl⟩ : ∃ m, k = m + 1 := ⟨k - 1, by omega⟩
    have hc : ((d + 1 : Nat) : Int) = (d : Int) + 1 := by omega
    rw [hc] at hm
    have hlen : (p ++ marksString (d + 1) m).length = p.length + (d + 1) := by rw [List.length_append, marksString_length]
    have hlt : p.length < (p ++ marksString (d + 1) m).length := by omega
    have hat : rdOf ByteArray.empty (p ++ marksString (d + 1) m) (p.length : Int) = mkString m := by rw [rdS_at _ _ hlt]; simp [marksString]
    have w1 : wrap64 (m + 1) = m + 1 := by unfold wrap64; omega
    have hn := ih k (p ++ [mkString m]) (m + 1) (by omega) (by simp; omega) (by omega) (by omega)
    rw [List.append_assoc, List.singleton_append, show (((p ++ [mkString m]).length : Nat) : Int) = ((p.length + 1 : Nat) : Int) from by simp] at hn
    simp only [laws_heldStringS.l0, Option.bind_some, mt_eq (m) (by omega) (by omega) k (by omega), w1, hat]
    rw [if_pos (by omega), if_pos (by omega), cast_wrap hlt (by omega)]
    simp only [mkString, ne_eq, not_true_eq_false, if_true, if_false]
    refine Eq.trans hn ?_
    rw [hc]
    exact congrArg some (by omega)
theorem heldStringS_eq (n : Nat) (m : Int) (k : Nat) (hk : n + 20 < k) (hl : n ≤ 1048576) (h0 : 0 ≤ m) (hm : m + 1 * n ≤ 100000000000000) : laws_heldStringS.f k (marksString n m) m = some (m + 1 * n) := by
  have := heldStringS_loop n k [] m hk (by simpa using hl) h0 hm
  unfold laws_heldStringS.f
  exact this
/-- a byte that a key may hold -/
def kb (b : Int) : Bool := decide ((48 ≤ b ∧ b ≤ 57) ∨ (97 ≤ b ∧ b ≤ 122) ∨ b = 47 ∨ b = 45)
theorem kspec_round (x : ByteArray) (k : Nat) (i : Int) (h0 : 0 ≤ i) (hl : i < (x.size : Int)) (hw : wrap64 (i + 1) = i + 1) :
    spec_KeyOK.l0 (k + 1) x i = if kb (bt x i) = true then spec_KeyOK.l0 k x (i + 1) else some false := by
  simp only [spec_KeyOK.l0, spec_l00Digit.f, hw]
  rw [if_pos hl, if_pos h0]
  unfold kb
  generalize bt x i = b
  by_cases a1 : b ≥ 48 <;> by_cases a2 : b ≤ 57 <;> by_cases a3 : b < 97 <;> by_cases a4 : b > 122 <;> by_cases a5 : b = 47 <;> by_cases a6 : b = 45 <;>
    first | omega | (simp [a1, a2, a3, a4, a5, a6] <;> omega)
theorem kimpl_round (x : ByteArray) (k : Nat) (i : Int) (h0 : 0 ≤ i) (hl : i < (x.size : Int)) (hw : wrap64 (i + 1) = i + 1) :
    impl_KeyOK.l0 (k + 1) x (x.size : Int) i = if kb (bt x i) = true then impl_KeyOK.l0 k x (x.size : Int) (i + 1) else some false := by
  simp only [impl_KeyOK.l0, hw]
  rw [if_pos hl, if_pos h0, if_pos hl]
  unfold kb
  generalize bt x i = b
  by_cases a1 : b < 48 <;> by_cases a2 : b > 57 <;> by_cases a3 : b < 97 <;> by_cases a4 : b > 122 <;> by_cases a5 : b = 47 <;> by_cases a6 : b = 45 <;>
    first | omega | (simp [a1, a2, a3, a4, a5, a6] <;> omega)
def kFrom (x : ByteArray) (i : Nat) : Bool := ((List.range x.size).drop i).all (fun j => kb (bt x (j : Int))) && (decide (1 ≤ (x.size : Int)) && decide ((x.size : Int) ≤ 30))
theorem kFrom_step (x : ByteArray) (i : Nat) (h : i < x.size) : kFrom x i = (kb (bt x (i : Int)) && kFrom x (i + 1)) := by
  unfold kFrom
  rw [List.drop_eq_getElem_cons (show i < (List.range x.size).length by rw [List.length_range]; exact h), List.all_cons, List.getElem_range, Bool.and_assoc]
theorem key_loops (x : ByteArray) (hn : x.size ≤ 140737488351232) (d : Nat) : ∀ (k i : Nat), i ≤ x.size → x.size - i = d → d < k →
    spec_KeyOK.l0 k x (i : Int) = some (kFrom x i) ∧ impl_KeyOK.l0 k x (x.size : Int) (i : Int) = some (kFrom x i) := by
  induction d with
  | zero =>
    intro k i h1 hd hk
    obtain ⟨k, rfl⟩ : ∃ m, k = m + 1 := ⟨k - 1, by omega⟩
    obtain rfl : i = x.size := by omega
    have e : kFrom x x.size = (decide (1 ≤ (x.size : Int)) && decide ((x.size : Int) ≤ 30)) := by
      unfold kFrom
      rw [List.drop_of_length_le (by rw [List.length_range]; exact Nat.le_refl _)]
      rfl
    simp only [spec_KeyOK.l0, impl_KeyOK.l0, in_eq, within_eq, Option.bind_some]
    rw [if_neg (by omega), e]
    exact ⟨rfl, by rw [if_neg (by omega)]⟩
  | succ d ih =>
    intro k i h1 hd hk
    obtain ⟨k, rfl⟩ : ∃ m, k = m + 1 := ⟨k - 1, by omega⟩
    have hlt : i < x.size := by omega
    have hw : wrap64 ((i : Int) + 1) = (i : Int) + 1 := by unfold wrap64; omega
    obtain ⟨h1, h2⟩ := ih k (i + 1) (by omega) (by omega) (by omega)
    have e : ((i : Int) + 1) = ((i + 1 : Nat) : Int) := by omega
    rw [kspec_round x k i (by omega) (by omega) hw, kimpl_round x k i (by omega) (by omega) hw, e, h1, h2, kFrom_step x i hlt]
    cases kb (bt x (i : Int)) <;> simp
/-- a key -/
def kOK (x : ByteArray) : Bool := kFrom x 0
theorem keyOK_eq (x : ByteArray) (hn : x.size ≤ 140737488351232) (k : Nat) (hk : x.size < k) : spec_KeyOK.f k x = some (kOK x) ∧ impl_KeyOK.f k x = some (kOK x) := by
  obtain ⟨h1, h2⟩ := key_loops x hn x.size k 0 (by omega) (by omega) hk
  unfold spec_KeyOK.f impl_KeyOK.f
  have e : ((0 : Nat) : Int) = 0 := rfl
  rw [e] at h1 h2
  refine ⟨?_, h2⟩
  by_cases h : (x.size : Int) > 65536
  · rw [if_pos h]
    have : kOK x = false := by
      unfold kOK kFrom
      rw [decide_eq_false (show ¬ (x.size : Int) ≤ 30 by omega)]
      simp
    rw [this]
  · rw [if_neg h]
    exact h1
/-- what is asked of the object at place i -/
def dupB (l : List S51) (i : Nat) (v : Int) : Bool := (l.take i).any (fun x => decide (x.f1 = v))
def ordB (l : List S51) (i : Nat) : Bool := decide (i = 0) || Op.bytesLess ((l.getD (i - 1) z51).f0).toList ((l.getD i z51).f0).toList
def objB (l : List S51) (next : Int) (i : Nat) : Bool :=
  kOK (l.getD i z51).f0 && ((decide (1 ≤ (l.getD i z51).f1) && decide ((l.getD i z51).f1 ≤ wrap64 (next - 1))) && (decide (((l.getD i z51).f2.size : Int) ≤ 600) && (ordB l i && !(dupB l i (l.getD i z51).f1))))
def objsB (l : List S51) (next : Int) (i : Nat) : Bool := ((List.range l.length).drop i).all (fun j => objB l next j)
theorem objsB_step (l : List S51) (next : Int) (i : Nat) (h : i < l.length) : objsB l next i = (objB l next i && objsB l next (i + 1)) := by
  unfold objsB
  rw [List.drop_eq_getElem_cons (show i < (List.range l.length).length by rw [List.length_range]; exact h), List.all_cons, List.getElem_range]
theorem objsB_end (l : List S51) (next : Int) : objsB l next l.length = true := by
  unfold objsB
  rw [List.drop_of_length_le (by rw [List.length_range]; exact Nat.le_refl _)]
  rfl
def storeB (l : List S51) (next : Int) : Bool := objsB l next 0 && (decide ((l.length : Int) ≤ 300) && (decide (1 ≤ next) && decide (next ≤ 1000000000)))
theorem dup_loop (l : List S51) (hl : l.length ≤ 1048576) (next v : Int) (a b : ByteArray) (i : Nat) (hi : i < l.length) (d : Nat) : ∀ (k0 j : Nat), j ≤ i → i - j = d →
    spec_StoreOK.l1 (k0 + d + 1) (i : Int) (j : Int) l next a v b = if ((l.take i).drop j).any (fun x => decide (x.f1 = v)) = true then some false else spec_StoreOK.l0 k0 ((i + 1 : Nat) : Int) l next := by
  have hw : wrap64 ((i : Int) + 1) = ((i + 1 : Nat) : Int) := by unfold wrap64; omega
  induction d with
  | zero =>
    intro k0 j hj hd
    obtain rfl : j = i := by omega
    simp only [spec_StoreOK.l1]
    rw [if_neg (by omega), hw, List.drop_of_length_le (by rw [List.length_take]; omega)]
    rfl
  | succ d ih =>
    intro k0 j hj hd
    have hlt : j < i := by omega
    have hwj : wrap64 ((j : Int) + 1) = ((j + 1 : Nat) : Int) := by unfold wrap64; omega
    have hd2 : (l.take i).drop j = l[j]'(by omega) :: (l.take i).drop (j + 1) := by
      rw [List.drop_eq_getElem_cons (show j < (l.take i).length by rw [List.length_take]; omega), List.getElem_take]
    have ihj := ih k0 (j + 1) (by omega) (by omega)
    rw [show k0 + (d + 1) + 1 = (k0 + d + 1) + 1 by omega]
    generalize k0 + d + 1 = K at ihj ⊢
    simp only [spec_StoreOK.l1]
    rw [if_pos (by omega), if_pos (by omega), if_pos (by omega), rd51_at l j (by omega), hwj, ihj, hd2, List.any_cons]
    by_cases hv : (l[j]'(by omega)).f1 = v
    · rw [if_pos hv, decide_eq_true hv]; simp
    · rw [if_neg hv, decide_eq_false hv]; simp
theorem getD_at (l : List S51) (i : Nat) (h : i < l.length) : l.getD i z51 = l[i] := by
  rw [List.getD_eq_getElem?_getD, List.getElem?_eq_getElem h]; rfl
theorem sspec_step (l : List S51) (hl : l.length ≤ 1048576) (next : Int) (i : Nat) (hi : i < l.length) (k0 : Nat) (hk : (l[i]).f0.size < k0) (hs : (l[i]).f0.size ≤ 140737488351232) :
    spec_StoreOK.l0 (k0 + i + 3) (i : Int) l next = if objB l next i = true then spec_StoreOK.l0 k0 ((i + 1 : Nat) : Int) l next else some false := by
  have hd := dup_loop l hl next (l[i]).f1 (l[i]).f0 (l[i]).f2 i hi i k0 0 (by omega) (by omega)
  rw [show k0 + i + 3 = (k0 + i + 1 + 1) + 1 by omega]
  obtain ⟨hkk, _⟩ := keyOK_eq (l[i]).f0 hs (k0 + i + 1 + 1) (by omega)
  have e0 : ((0 : Nat) : Int) = 0 := rfl
  rw [e0, List.drop_zero] at hd
  simp only [spec_StoreOK.l0]
  rw [if_pos (by omega), if_pos (by omega), rd51_at l i hi, hkk]
  simp only [Option.bind_some, in_eq, spec_StoreOK.j1]
  rw [hd]
  unfold objB dupB
  rw [getD_at l i hi]
  cases kOK (l[i]).f0 with
  | false => simp
  | true =>
    simp only [if_true, Bool.true_and]
    cases (decide (1 ≤ (l[i]).f1) && decide ((l[i]).f1 ≤ wrap64 (next - 1))) with
    | false => simp
    | true =>
      simp only [if_true, Bool.true_and]
      by_cases h6 : (((l[i]).f2).size : Int) > 600
      · rw [if_pos h6, decide_eq_false (show ¬ (((l[i]).f2).size : Int) ≤ 600 by omega)]
        simp
      · rw [if_neg h6, decide_eq_true (show (((l[i]).f2).size : Int) ≤ 600 by omega), Bool.true_and]
        rcases Nat.eq_zero_or_pos i with h0 | h0
        · subst h0
          simp [ordB]
        · have hw : wrap64 ((i : Int) - 1) = ((i - 1 : Nat) : Int) := by unfold wrap64; omega
          have hr : rd_T51 l ((i - 1 : Nat) : Int) = l.getD (i - 1) z51 := by unfold rd_T51; rw [Int.toNat_natCast]
          rw [if_pos (by omega), hw, hr]
          unfold ordB
          rw [if_pos (by omega), if_pos (by omega), decide_eq_false (show ¬ i = 0 by omega), Bool.false_or, getD_at l i hi]
          cases Op.bytesLess ((l.getD (i - 1) z51).f0).toList ((l[i]).f0).toList <;> cases (l.take i).any (fun x => decide (x.f1 = (l[i]).f1)) <;> simp
def mets (l : List S51) (i : Nat) : List Int := ((l.take i).map (fun x => x.f1)).reverse
theorem mets_has (l : List S51) (i : Nat) (v : Int) : (mets l i).contains v = dupB l i v := by
  unfold mets dupB
  rw [Bool.eq_iff_iff, List.contains_iff_mem, List.mem_reverse, List.mem_map, List.any_eq_true]
  constructor
  · rintro ⟨x, hx, e⟩; exact ⟨x, hx, by simpa using e⟩
  · rintro ⟨x, hx, e⟩; exact ⟨x, hx, by simpa using e⟩
theorem mets_next (l : List S51) (i : Nat) (h : i < l.length) : (l[i]).f1 :: mets l i = mets l (i + 1) := by
  unfold mets
  rw [List.take_succ_eq_append_getElem h, List.map_append, List.reverse_append]
  rfl
theorem simpl_step (l : List S51) (hl : l.length ≤ 300) (next : Int) (i : Nat) (hi : i < l.length) (k : Nat) (hk : (l[i]).f0.size < k) (hs : (l[i]).f0.size ≤ 140737488351232) :
    impl_StoreOK.l0 (k + 1) l (l.length : Int) (i : Int) l next (mets l i) = if objB l next i = true then impl_StoreOK.l0 k l (l.length : Int) ((i + 1 : Nat) : Int) l next (mets l (i + 1)) else some false := by
  obtain ⟨_, hkk⟩ := keyOK_eq (l[i]).f0 hs k hk
  have hwi : wrap64 ((i : Int) + 1) = ((i + 1 : Nat) : Int) := by unfold wrap64; omega
  have hm : (mets l i).length < 4096 := by unfold mets; rw [List.length_reverse, List.length_map, List.length_take]; omega
  simp only [impl_StoreOK.l0]
  rw [if_pos (by omega), if_pos (by omega), if_pos (by omega), rd51_at l i hi, hkk]
  simp only [Option.bind_some, within_eq, if_pos hm, hwi]
  rw [mets_has, mets_next l i hi]
  unfold objB
  rw [getD_at l i hi]
  cases kOK (l[i]).f0 with
  | false => simp
  | true =>
    simp only [if_true, Bool.true_and]
    cases (decide (1 ≤ (l[i]).f1) && decide ((l[i]).f1 ≤ wrap64 (next - 1))) with
    | false => simp
    | true =>
      simp only [if_true, Bool.true_and]
      by_cases h6 : (((l[i]).f2).size : Int) > 600
      · rw [if_pos h6, decide_eq_false (show ¬ (((l[i]).f2).size : Int) ≤ 600 by omega)]
        simp
      · rw [if_neg h6, decide_eq_true (show (((l[i]).f2).size : Int) ≤ 600 by omega), Bool.true_and]
        rcases Nat.eq_zero_or_pos i with h0 | h0
        · subst h0
          cases dupB l 0 (l[0]).f1 <;> simp [ordB]
        · have hw : wrap64 ((i : Int) - 1) = ((i - 1 : Nat) : Int) := by unfold wrap64; omega
          have hr : rd_T51 l ((i - 1 : Nat) : Int) = l.getD (i - 1) z51 := by unfold rd_T51; rw [Int.toNat_natCast]
          cases dupB l i (l[i]).f1 with
          | true => simp
          | false =>
            simp only [Bool.false_eq_true, if_false]
            rw [if_pos (show (i : Int) > 0 by omega), hw, hr, if_pos (by omega), if_pos (by omega)]
            unfold ordB
            rw [decide_eq_false (show ¬ i = 0 by omega), Bool.false_or, getD_at l i hi]
            cases Op.bytesLess ((l.getD (i - 1) z51).f0).toList ((l[i]).f0).toList <;> simp
theorem sspec_loop (l : List S51) (hl : l.length ≤ 1048576) (S : Nat) (hS : S ≤ 140737488351232) (hs : ∀ x ∈ l, x.f0.size ≤ S) (next : Int) (d : Nat) : ∀ (k i : Nat), i ≤ l.length → l.length - i = d → d * (l.length + 5) + S + 5 < k →
    spec_StoreOK.l0 k (i : Int) l next = some (objsB l next i && (decide ((l.length : Int) ≤ 300) && (decide (1 ≤ next) && decide (next ≤ 1000000000)))) := by
  induction d with
  | zero =>
    intro k i hi hd hk
    obtain ⟨k, rfl⟩ : ∃ m, k = m + 1 := ⟨k - 1, by omega⟩
    obtain rfl : i = l.length := by omega
    simp only [spec_StoreOK.l0, in_eq, Option.bind_some]
    rw [if_neg (by omega), objsB_end, Bool.true_and]
    by_cases h : (l.length : Int) ≤ 300
    · rw [if_pos h, decide_eq_true h, Bool.true_and]
    · rw [if_neg h, decide_eq_false h, Bool.false_and]
  | succ d ih =>
    intro k i hi hd hk
    have hlt : i < l.length := by omega
    have hm : (d + 1) * (l.length + 5) = d * (l.length + 5) + (l.length + 5) := Nat.succ_mul _ _
    have hx := hs l[i] (List.getElem_mem hlt)
    generalize d * (l.length + 5) = D at hm ih
    rw [hm] at hk
    clear hm
    obtain ⟨k0, rfl⟩ : ∃ m, k = m + i + 3 := ⟨k - i - 3, by omega⟩
    rw [sspec_step l hl next i hlt k0 (by omega) (by omega), ih k0 (i + 1) (by omega) (by omega) (by omega), objsB_step l next i hlt]
    cases objB l next i <;> simp
theorem simpl_loop (l : List S51) (hl : l.length ≤ 300) (S : Nat) (hS : S ≤ 140737488351232) (hs : ∀ x ∈ l, x.f0.size ≤ S) (next : Int) (d : Nat) : ∀ (k i : Nat), i ≤ l.length → l.length - i = d → d + S + 5 < k →
    impl_StoreOK.l0 k l (l.length : Int) (i : Int) l next (mets l i) = some (objsB l next i) := by
  induction d with
  | zero =>
    intro k i hi hd hk
    obtain ⟨k, rfl⟩ : ∃ m, k = m + 1 := ⟨k - 1, by omega⟩
    obtain rfl : i = l.length := by omega
    simp only [impl_StoreOK.l0]
    rw [if_neg (by omega), objsB_end]
  | succ d ih =>
    intro k i hi hd hk
    have hlt : i < l.length := by omega
    have hx := hs l[i] (List.getElem_mem hlt)
    obtain ⟨k, rfl⟩ : ∃ m, k = m + 1 := ⟨k - 1, by omega⟩
    rw [simpl_step l hl next i hlt k (by omega) (by omega), ih k (i + 1) (by omega) (by omega) (by omega), objsB_step l next i hlt]
    cases objB l next i <;> simp
/-- a right store: both tell the same -/
theorem store_same (l : List S51) (hl : l.length ≤ 1048576) (S : Nat) (hS : S ≤ 140737488351232) (hs : ∀ x ∈ l, x.f0.size ≤ S) (next : Int) (k : Nat) (hk : l.length * (l.length + 5) + S + 320 < k) :
    spec_StoreOK.f k l next = some (storeB l next) ∧ impl_StoreOK.f k l next = some (storeB l next) := by
  have h1 := sspec_loop l hl S hS hs next l.length k 0 (by omega) (by omega) (by omega)
  refine ⟨h1, ?_⟩
  unfold impl_StoreOK.f storeB
  obtain ⟨k, rfl⟩ : ∃ m, k = m + 1 := ⟨k - 1, by omega⟩
  simp only [within_eq, Option.bind_some, impl_StoreOK.j0]
  cases (decide (1 ≤ next) && decide (next ≤ 1000000000)) with
  | false => simp
  | true =>
    simp only [if_true, Bool.and_true]
    by_cases h : (l.length : Int) > 300
    · rw [if_pos (decide_eq_true h), decide_eq_false (show ¬ (l.length : Int) ≤ 300 by omega)]
      simp
    · have h2 := simpl_loop l (by omega) S hS hs next l.length k 0 (by omega) (by omega) (by omega)
      rw [if_neg (by simpa using h), decide_eq_true (show (l.length : Int) ≤ 300 by omega), Bool.and_true]
      exact h2
theorem bl_irr : ∀ x : List UInt8, Op.bytesLess x x = false
  | [] => rfl
  | a :: x => by
    have ih := bl_irr x
    unfold Op.bytesLess
    rw [ih]
    simp
theorem bl_trans : ∀ x y z : List UInt8, Op.bytesLess x y = true → Op.bytesLess y z = true → Op.bytesLess x z = true
  | x, [], z, h, _ => by cases x <;> simp [Op.bytesLess] at h
  | x, b :: y, [], _, h => by simp [Op.bytesLess] at h
  | [], b :: y, c :: z, _, _ => rfl
  | a :: x, b :: y, c :: z, h1, h2 => by
    have ih := bl_trans x y z
    unfold Op.bytesLess at h1 h2 ⊢
    simp only [Bool.or_eq_true, decide_eq_true_eq, Bool.and_eq_true, beq_iff_eq] at h1 h2 ⊢
    rcases h1 with h1 | ⟨rfl, h1⟩
    · rcases h2 with h2 | ⟨rfl, h2⟩
      · exact .inl (UInt8.lt_trans h1 h2)
      · exact .inl h1
    · rcases h2 with h2 | ⟨rfl, h2⟩
      · exact .inl h2
      · exact .inr ⟨rfl, ih h1 h2⟩
theorem bl_total : ∀ x y : List UInt8, x = y ∨ Op.bytesLess x y = true ∨ Op.bytesLess y x = true
  | [], [] => .inl rfl
  | [], _ :: _ => .inr (.inl rfl)
  | _ :: _, [] => .inr (.inr rfl)
  | a :: x, b :: y => by
    have ih := bl_total x y
    unfold Op.bytesLess
    simp only [Bool.or_eq_true, decide_eq_true_eq, Bool.and_eq_true, beq_iff_eq]
    rcases Nat.lt_trichotomy a.toNat b.toNat with h | h | h
    · exact .inr (.inl (.inl (UInt8.lt_iff_toNat_lt.2 h)))
    · have e : a = b := UInt8.toNat_inj.1 h
      subst e
      rcases ih with rfl | h | h
      · exact .inl rfl
      · exact .inr (.inl (.inr ⟨rfl, h⟩))
      · exact .inr (.inr (.inr ⟨rfl, h⟩))
    · exact .inr (.inr (.inl (UInt8.lt_iff_toNat_lt.2 h)))
/-- the order of texts: Compare's sign, and whether they are one -/
theorem cmp_lt : ∀ x y : List UInt8, decide (Lib.compareBytes x y < 0) = Op.bytesLess x y
  | [], [] => rfl
  | [], _ :: _ => rfl
  | _ :: _, [] => rfl
  | a :: x, b :: y => by
    have ih := cmp_lt x y
    unfold Lib.compareBytes Op.bytesLess
    by_cases h : a < b
    · simp [h]
    · by_cases h2 : b < a
      · have hne : ¬ a = b := fun e => by subst e; exact h h2
        simp [h, h2, hne]
      · have e : a = b := UInt8.le_antisymm (UInt8.not_lt.1 h2) (UInt8.not_lt.1 h)
        subst e
        rw [if_neg h, if_neg h, ih]
        simp
theorem cmp_eq : ∀ x y : List UInt8, Lib.compareBytes x y = 0 ↔ x = y
  | [], [] => by simp [Lib.compareBytes]
  | [], _ :: _ => by simp [Lib.compareBytes]
  | _ :: _, [] => by simp [Lib.compareBytes]
  | a :: x, b :: y => by
    have ih := cmp_eq x y
    unfold Lib.compareBytes
    by_cases h : a < b
    · have hne : ¬ a = b := fun e => by subst e; exact UInt8.lt_irrefl _ h
      simp [h, hne]
    · by_cases h2 : b < a
      · have hne : ¬ a = b := fun e => by subst e; exact h h2
        simp [h, h2, hne]
      · have e : a = b := UInt8.le_antisymm (UInt8.not_lt.1 h2) (UInt8.not_lt.1 h)
        subst e
        rw [if_neg h, if_neg h, ih]
        simp
/-- keys rise -/
theorem ord_all (l : List S51) (next : Int) (h : objsB l next 0 = true) (i : Nat) (hi : i < l.length) : objB l next i = true := by
  unfold objsB at h
  rw [List.drop_zero, List.all_eq_true] at h
  exact h i (List.mem_range.2 hi)
theorem key_next (l : List S51) (next : Int) (h : objsB l next 0 = true) (i : Nat) (hi : i + 1 < l.length) : Op.bytesLess (l.getD i z51).f0.toList (l.getD (i + 1) z51).f0.toList = true := by
  have := ord_all l next h (i + 1) hi
  unfold objB ordB at this
  simp only [Bool.and_eq_true, Bool.or_eq_true, decide_eq_true_eq] at this
  rcases this.2.2.2.1 with e | e
  · omega
  · simpa using e
theorem key_rise (l : List S51) (next : Int) (h : objsB l next 0 = true) (i d : Nat) (hj : i + d + 1 < l.length) : Op.bytesLess (l.getD i z51).f0.toList (l.getD (i + d + 1) z51).f0.toList = true := by
  induction d with
  | zero => exact key_next l next h i hj
  | succ d ih => exact bl_trans _ _ _ (ih (by omega)) (key_next l next h (i + d + 1) hj)
theorem key_lt (l : List S51) (next : Int) (h : objsB l next 0 = true) {i j : Nat} (hij : i < j) (hj : j < l.length) : Op.bytesLess (l.getD i z51).f0.toList (l.getD j z51).f0.toList = true := by
  obtain ⟨d, rfl⟩ : ∃ d, j = i + d + 1 := ⟨j - i - 1, by omega⟩
  exact key_rise l next h i d hj
theorem lowK_eq (l : List S51) (key : ByteArray) (i : Nat) : lowK l key i = Op.bytesLess (l.getD i z51).f0.toList key.toList := by
  unfold lowK cmpK
  rw [ByteArray.toList_eq, ByteArray.toList_eq]
  exact cmp_lt _ _
theorem monoK_of (l : List S51) (next : Int) (h : objsB l next 0 = true) (key : ByteArray) : monoK l key = true := by
  unfold monoK
  rw [List.all_eq_true]
  intro b hb
  have hb := List.mem_range.1 hb
  cases hq : lowK l key b with
  | false => rfl
  | true =>
    rw [Bool.not_true, Bool.false_or, List.all_eq_true]
    intro a ha
    have ha := List.mem_range.1 ha
    rw [lowK_eq] at hq ⊢
    exact bl_trans _ _ _ (key_lt l next h ha hb) hq
def findZ : List S51 → ByteArray → Nat → Int
  | [], _, _ => -1
  | x :: r, key, i => if x.f0.toList = key.toList then (i : Int) else findZ r key (i + 1)
theorem findZ_cons (x : S51) (r : List S51) (key : ByteArray) (i : Nat) : findZ (x :: r) key i = if x.f0.toList = key.toList then (i : Int) else findZ r key (i + 1) := rfl
theorem findZ_spec (key : ByteArray) : ∀ (l : List S51) (i : Nat), (findZ l key i = -1 ∧ ∀ t, t < l.length → (l.getD t z51).f0.toList ≠ key.toList) ∨ ∃ t, t < l.length ∧ findZ l key i = ((i + t : Nat) : Int) ∧ (l.getD t z51).f0.toList = key.toList
  | [], i => .inl ⟨rfl, fun t ht => absurd ht (Nat.not_lt_zero _)⟩
  | x :: r, i => by
    rw [findZ_cons]
    by_cases h : x.f0.toList = key.toList
    · exact .inr ⟨0, by simp, by rw [if_pos h]; rfl, by simpa using h⟩
    · rw [if_neg h]
      rcases findZ_spec key r (i + 1) with ⟨e, ha⟩ | ⟨t, ht, e, hk⟩
      · refine .inl ⟨e, fun t ht => ?_⟩
        cases t with
        | zero => simpa using h
        | succ t => simpa using ha t (by simpa using ht)
      · exact .inr ⟨t + 1, by simpa using ht, by rw [e]; congr 1; omega, by simpa using hk⟩
/-- where a key stands: both searches tell the same -/
theorem find_both (l : List S51) (next : Int) (h : objsB l next 0 = true) (key : ByteArray) :
    (hasK l key = true ∧ findZ l key 0 = (cntK l key : Nat) ∧ cntK l key < l.length ∧ (l.getD (cntK l key) z51).f0.toList = key.toList) ∨ (hasK l key = false ∧ findZ l key 0 = -1) := by
  have hc0 : ∀ t, decide (cmpK key (l.getD t z51) < 0) = lowK l key t := fun t => rfl
  rcases findZ_spec key l 0 with ⟨e, ha⟩ | ⟨t, ht, e, hk⟩
  · refine .inr ⟨?_, e⟩
    unfold hasK
    by_cases hlt : cntK l key < l.length
    · rw [decide_eq_true hlt, Bool.true_and]
      refine decide_eq_false fun hz => ?_
      unfold cmpK at hz
      exact ha _ hlt (by rw [ByteArray.toList_eq, ByteArray.toList_eq]; exact (cmp_eq _ _).1 hz)
    · rw [decide_eq_false hlt, Bool.false_and]
  · have hcnt : cntK l key = t := countP_cut _ z51 l t (Nat.le_of_lt ht) (fun s hs => by
        rw [hc0, lowK_eq, ← hk]
        exact key_lt l next h hs ht) (fun s h1 h2 => by
        rw [hc0, lowK_eq, ← hk]
        rcases Nat.eq_or_lt_of_le h1 with rfl | h3
        · exact bl_irr _
        · have := key_lt l next h h3 h2
          cases hq : Op.bytesLess (l.getD s z51).f0.toList (l.getD t z51).f0.toList with
          | false => rfl
          | true =>
            have hz := bl_trans _ _ _ this hq
            rw [bl_irr] at hz
            cases hz)
    refine .inl ?_
    rw [hcnt]
    refine ⟨?_, by rw [e, Nat.zero_add], ht, hk⟩
    unfold hasK
    rw [hcnt, decide_eq_true ht, Bool.true_and]
    refine decide_eq_true ?_
    unfold cmpK
    rw [ByteArray.toList_eq, ByteArray.toList_eq] at hk
    exact (cmp_eq _ _).2 hk
theorem ifind_eq (l : List S51) (hl : l.length ≤ 1048576) (next : Int) (h : objsB l next 0 = true) (key : ByteArray) : impl_Store_find.f l next key = some (((cntK l key : Nat) : Int), hasK l key) := by
  unfold impl_Store_find.f
  rw [if_pos ⟨by omega, monoK_of l next h key⟩]
theorem storeB_objs {l : List S51} {next : Int} (h : storeB l next = true) : objsB l next 0 = true := by
  unfold storeB at h
  exact (Bool.and_eq_true _ _ ▸ h : _ ∧ _).1
theorem storeB_len {l : List S51} {next : Int} (h : storeB l next = true) : l.length ≤ 300 ∧ 1 ≤ next ∧ next ≤ 1000000000 := by
  unfold storeB at h
  simp only [Bool.and_eq_true, decide_eq_true_eq] at h
  omega
theorem obj_ver {l : List S51} {next : Int} (h : objsB l next 0 = true) {i : Nat} (hi : i < l.length) : 1 ≤ (l.getD i z51).f1 := by
  have := ord_all l next h i hi
  unfold objB at this
  simp only [Bool.and_eq_true, decide_eq_true_eq] at this
  exact this.2.1.1
theorem rd148_cnt (l : List S51) (i : Nat) : rd_T51 l (i : Int) = l.getD i z51 := by unfold rd_T51; rw [Int.toNat_natCast]
theorem dig_one (c : Nat) (hc : c < 10) : strOfNums [(wrap64 (48 + (c : Int))) % 256] = (⟨#[UInt8.ofNat (48 + c)]⟩ : ByteArray) := by
  have e : (wrap64 (48 + (c : Int))) % 256 = ((48 + c : Nat) : Int) := by unfold wrap64; omega
  rw [e]
  unfold strOfNums
  rw [List.map_cons, List.map_nil, Int.toNat_natCast]
theorem mk_append (a b : List UInt8) : (⟨a.toArray⟩ : ByteArray) ++ (⟨b.toArray⟩ : ByteArray) = ⟨(a ++ b).toArray⟩ := by
  apply ByteArray.ext
  simp [ByteArray.data_append]
theorem dig_nat (d : Nat) : ∀ (k u : Nat), u < 10 ^ (d + 1) → u ≤ 9223372036854775807 → d < k → d < 100 → spec_l00Digits.f k (u : Int) = some ⟨(Lib.decDigits u).toArray⟩ ∧ (Lib.decDigits u).length ≤ d + 1 := by
  induction d with
  | zero =>
    intro k u hu h0 hk hd
    obtain ⟨k, rfl⟩ : ∃ m, k = m + 1 := ⟨k - 1, by omega⟩
    simp only [spec_l00Digits.f]
    rw [if_neg (by omega), if_neg (by omega), if_pos (by omega), dig_one u (by omega), Lib.decDigits_one (by omega)]
    exact ⟨rfl, by simp⟩
  | succ d ih =>
    intro k u hu h0 hk hd
    obtain ⟨k, rfl⟩ : ∃ m, k = m + 1 := ⟨k - 1, by omega⟩
    simp only [spec_l00Digits.f]
    by_cases h : u < 10
    · rw [if_neg (by omega), if_neg (by omega), if_pos (by omega), dig_one u h, Lib.decDigits_one h]
      exact ⟨rfl, by simp⟩
    · have hp : 10 ^ (d + 1 + 1) = 10 ^ (d + 1) * 10 := Nat.pow_succ ..
      have e1 : wrap64 (Int.tdiv (u : Int) 10) = ((u / 10 : Nat) : Int) := by
        have : Int.tdiv (u : Int) 10 = ((u / 10 : Nat) : Int) := by
          rw [Int.tdiv_eq_ediv_of_nonneg (by omega)]; rfl
        rw [this]; unfold wrap64; omega
      have e2 : Int.tmod (u : Int) 10 = ((u % 10 : Nat) : Int) := by
        rw [Int.tmod_eq_emod_of_nonneg (by omega)]; rfl
      obtain ⟨i1, i2⟩ := ih k (u / 10) (by omega) (by omega) (by omega) (by omega)
      rw [if_neg (by omega), if_neg (by omega), if_neg (by omega), e1, i1, e2]
      simp only [Option.bind_some]
      rw [dig_one (u % 10) (by omega), if_pos]
      · have hd : Lib.decDigits u = Lib.decDigits (u / 10) ++ [UInt8.ofNat (48 + u % 10)] := by
          conv => lhs; rw [Lib.decDigits]
          rw [dif_neg h]
        rw [hd, ← mk_append]
        refine ⟨rfl, ?_⟩
        rw [List.length_append, List.length_singleton]
        omega
      · show ((Lib.decDigits (u / 10)).toArray).size + 1 ≤ _
        rw [List.size_toArray]
        omega
theorem digits_eq (n : Int) (h0 : -9223372036854775808 ≤ n) (h1 : n ≤ 9223372036854775807) (k : Nat) (hk : 21 ≤ k) : spec_l00Digits.f k n = some ⟨(Lib.itoa n).toArray⟩ := by
  obtain ⟨k, rfl⟩ : ∃ m, k = m + 1 := ⟨k - 1, by omega⟩
  by_cases hn : n < 0
  · by_cases hm : n = -9223372036854775808
    · subst hm
      simp only [spec_l00Digits.f]
      rw [if_pos trivial]
      have e : Lib.itoa (-9223372036854775808) = 45 :: Lib.decDigits 9223372036854775808 := by unfold Lib.itoa; rw [if_pos (by decide)]; rfl
      have hq : Lib.decDigits 9223372036854775808 = Lib.decDigits 922337203685477580 ++ [UInt8.ofNat (48 + 8)] := by
        conv => lhs; rw [Lib.decDigits]
        rw [dif_neg (by decide)]
      rw [e, hq]
      simp [Lib.decDigits]
    · obtain ⟨u, rfl⟩ : ∃ u : Nat, n = -(u : Int) := ⟨n.natAbs, by omega⟩
      have e : wrap64 (-(-(u : Int))) = (u : Int) := by unfold wrap64; omega
      obtain ⟨i1, i2⟩ := dig_nat 19 k u (by omega) (by omega) (by omega) (by omega)
      simp only [spec_l00Digits.f]
      rw [if_neg hm, if_pos hn, e, i1]
      simp only [Option.bind_some]
      rw [if_pos]
      · have : Lib.itoa (-(u : Int)) = [45] ++ Lib.decDigits u := by unfold Lib.itoa; rw [if_pos hn]; simp
        rw [this, ← mk_append]
      · show 1 + ((Lib.decDigits u).toArray).size ≤ _
        rw [List.size_toArray]
        omega
  · obtain ⟨u, rfl⟩ : ∃ u : Nat, n = (u : Int) := ⟨n.toNat, by omega⟩
    rw [(dig_nat 19 (k + 1) u (by omega) (by omega) (by omega) (by omega)).1]
    have : Lib.itoa (u : Int) = Lib.decDigits u := by unfold Lib.itoa; rw [if_neg hn]; simp
    rw [this]
theorem itoa_size (n : Int) (h0 : -9223372036854775808 ≤ n) (h1 : n ≤ 9223372036854775807) : (⟨(Lib.itoa n).toArray⟩ : ByteArray).size ≤ 21 := by
  show ((Lib.itoa n).toArray).size ≤ 21
  rw [List.size_toArray]
  exact Lib.itoa_length_le n h0 h1
theorem size_mk (l : List UInt8) : (⟨l.toArray⟩ : ByteArray).size = l.length := by
  show l.toArray.size = l.length
  rw [List.size_toArray]
theorem mk_data (s : ByteArray) : (⟨s.data.toList.toArray⟩ : ByteArray) = s := by
  cases s
  simp
theorem bt_mk (l : List UInt8) (i : Nat) (h : i < l.length) : bt ⟨l.toArray⟩ (i : Int) = ((l[i].toNat : Nat) : Int) := by
  rw [← bt_at _ _ (by rw [Int.toNat_natCast, size_mk]; exact h)]
  simp only [Int.toNat_natCast]
  rfl
theorem extract_mk (l : List UInt8) (i : Nat) : (⟨l.toArray⟩ : ByteArray).extract i (⟨l.toArray⟩ : ByteArray).size = ⟨(l.drop i).toArray⟩ := by
  rw [size_mk]
  apply ByteArray.ext
  rw [ByteArray.data_extract]
  simp [List.extract, List.take_of_length_le]
def isDig (c : UInt8) : Bool := decide (48 ≤ c.toNat) && decide (c.toNat ≤ 57)
def dval (a : Nat) (l : List UInt8) : Nat := l.foldl (fun a c => a * 10 + (c.toNat - 48)) a
theorem dval_cons (a : Nat) (c : UInt8) (l : List UInt8) : dval a (c :: l) = dval (a * 10 + (c.toNat - 48)) l := by
  unfold dval
  rw [List.foldl_cons]
theorem dval_append (a : Nat) (l : List UInt8) (c : UInt8) : dval a (l ++ [c]) = dval a l * 10 + (c.toNat - 48) := by
  unfold dval
  rw [List.foldl_append, List.foldl_cons, List.foldl_nil]
theorem dval_ge (l : List UInt8) : ∀ a, a ≤ dval a l := by
  induction l with
  | nil => intro a; exact Nat.le_refl a
  | cons c l ih =>
    intro a
    rw [dval_cons]
    have := ih (a * 10 + (c.toNat - 48))
    omega
theorem dval_lt (l : List UInt8) : ∀ a, (l.all isDig) = true → dval a l < (a + 1) * 10 ^ l.length := by
  induction l with
  | nil => intro a _; simp [dval]
  | cons c l ih =>
    intro a h
    rw [List.all_cons, Bool.and_eq_true] at h
    have h1 : c.toNat ≤ 57 := by have := h.1; simp [isDig] at this; omega
    have := ih (a * 10 + (c.toNat - 48)) h.2
    rw [dval_cons, List.length_cons, Nat.pow_succ]
    refine Nat.lt_of_lt_of_le this ?_
    have e : (a + 1) * (10 ^ l.length * 10) = ((a + 1) * 10) * 10 ^ l.length := by rw [Nat.mul_comm (10 ^ l.length) 10, Nat.mul_assoc]
    rw [e]
    exact Nat.mul_le_mul_right _ (by omega)
theorem parse_ok (l : List UInt8) : ∀ a, (l.all isDig) = true → dval a l ≤ 1000000000000000000 → Lib.parseUint10 a l = .ok (dval a l) := by
  induction l with
  | nil => intro a _ _; rfl
  | cons c l ih =>
    intro a h hb
    rw [List.all_cons, Bool.and_eq_true] at h
    have hc : 48 ≤ c.toNat ∧ c.toNat ≤ 57 := by have := h.1; simp [isDig] at this; omega
    rw [dval_cons] at hb ⊢
    have hg := dval_ge l (a * 10 + (c.toNat - 48))
    simp only [Lib.parseUint10]
    rw [if_pos hc, if_neg (by omega), if_neg (by omega)]
    exact ih _ h.2 hb
theorem ofNat_toNat (n : Nat) (h : n < 256) : (UInt8.ofNat n).toNat = n := by
  simp only [UInt8.toNat_ofNat']
  omega
theorem dec_dig (d : Nat) : ∀ u, u ≤ d → ((Lib.decDigits u).all isDig) = true ∧ dval 0 (Lib.decDigits u) = u ∧ Lib.decDigits u ≠ [] := by
  induction d with
  | zero =>
    intro u h
    obtain rfl : u = 0 := by omega
    rw [Lib.decDigits_one (by decide)]
    exact ⟨by decide, by decide, by simp⟩
  | succ d ih =>
    intro u h
    by_cases hu : u < 10
    · rw [Lib.decDigits_one hu]
      have e := ofNat_toNat (48 + u) (by omega)
      refine ⟨?_, ?_, by simp⟩
      · simp only [List.all_cons, List.all_nil, Bool.and_true, isDig, e]
        simp
        omega
      · show 0 * 10 + ((UInt8.ofNat (48 + u)).toNat - 48) = u
        rw [e]; omega
    · have hs : Lib.decDigits u = Lib.decDigits (u / 10) ++ [UInt8.ofNat (48 + u % 10)] := by
        conv => lhs; rw [Lib.decDigits]
        rw [dif_neg hu]
      obtain ⟨i1, i2, i3⟩ := ih (u / 10) (by omega)
      have e := ofNat_toNat (48 + u % 10) (by omega)
      rw [hs]
      refine ⟨?_, ?_, by simp⟩
      · rw [List.all_append, i1]
        simp only [List.all_cons, List.all_nil, Bool.and_true, isDig, e, Bool.true_and]
        simp
        omega
      · rw [dval_append, i2, e]; omega
theorem dec_head (d : Nat) : ∀ u, u ≤ d → 1 ≤ u → ∃ c l, Lib.decDigits u = c :: l ∧ c.toNat ≠ 48 := by
  induction d with
  | zero => intro u h h1; omega
  | succ d ih =>
    intro u h h1
    by_cases hu : u < 10
    · rw [Lib.decDigits_one hu]
      exact ⟨_, _, rfl, by rw [ofNat_toNat _ (by omega)]; omega⟩
    · have hs : Lib.decDigits u = Lib.decDigits (u / 10) ++ [UInt8.ofNat (48 + u % 10)] := by
        conv => lhs; rw [Lib.decDigits]
        rw [dif_neg hu]
      obtain ⟨c, l, e, hc⟩ := ih (u / 10) (by omega) (by omega)
      rw [hs, e]
      exact ⟨c, _, rfl, hc⟩
/-- the digits of a number below 10^w are at most w -/
theorem dec_len (w : Nat) : ∀ u, u < 10 ^ (w + 1) → (Lib.decDigits u).length ≤ w + 1 := by
  induction w with
  | zero => intro u h; rw [Lib.decDigits_one (by simpa using h)]; simp
  | succ w ih =>
    intro u h
    have hp : 10 ^ (w + 1 + 1) = 10 ^ (w + 1) * 10 := Nat.pow_succ ..
    by_cases hu : u < 10
    · rw [Lib.decDigits_one hu]; simp
    · have hs : Lib.decDigits u = Lib.decDigits (u / 10) ++ [UInt8.ofNat (48 + u % 10)] := by
        conv => lhs; rw [Lib.decDigits]
        rw [dif_neg hu]
      rw [hs, List.length_append, List.length_singleton]
      have := ih (u / 10) (by omega)
      omega
theorem itoa_of_nat (u : Nat) : Lib.itoa (u : Int) = Lib.decDigits u := by unfold Lib.itoa; rw [if_neg (by omega)]; simp
theorem itoa_of_neg (u : Nat) (h : 1 ≤ u) : Lib.itoa (-(u : Int)) = 45 :: Lib.decDigits u := by unfold Lib.itoa; rw [if_pos (by omega)]; simp
/-- what is told of a number of at most 18 digits is read again -/
theorem atoi_itoa (v : Int) (h0 : -1000000000000000000 < v) (h1 : v < 1000000000000000000) : Lib.atoiAll (Lib.itoa v) = .ok v := by
  by_cases hv : v < 0
  · obtain ⟨u, rfl⟩ : ∃ u : Nat, v = -(u : Int) := ⟨v.natAbs, by omega⟩
    rw [itoa_of_neg u (by omega), Lib.atoiAll_minus]
    obtain ⟨i1, i2, i3⟩ := dec_dig u u (Nat.le_refl u)
    have hp : Lib.parseMag (Lib.decDigits u) = .ok u := by
      unfold Lib.parseMag
      rw [if_neg i3, parse_ok _ 0 i1 (by rw [i2]; omega), i2]
    rw [hp]
    unfold Lib.signed
    simp only
    rw [if_neg (by omega)]
  · obtain ⟨u, rfl⟩ : ∃ u : Nat, v = (u : Int) := ⟨v.toNat, by omega⟩
    rw [itoa_of_nat u]
    obtain ⟨i1, i2, i3⟩ := dec_dig u u (Nat.le_refl u)
    have hp : Lib.parseMag (Lib.decDigits u) = .ok u := by
      unfold Lib.parseMag
      rw [if_neg i3, parse_ok _ 0 i1 (by rw [i2]; omega), i2]
    cases hd : Lib.decDigits u with
    | nil => exact absurd hd i3
    | cons c r =>
      rw [hd] at i1 hp
      have hc : 48 ≤ c.toNat := by rw [List.all_cons, Bool.and_eq_true] at i1; have := i1.1; simp [isDig] at this; omega
      rw [Lib.atoiAll_plain c r (by omega) (by omega), hp]
      unfold Lib.signless
      simp only
      rw [if_neg (by omega)]
theorem wrap_id (n : Int) (h0 : -9223372036854775808 ≤ n) (h1 : n ≤ 9223372036854775807) : wrap64 n = n := by
  unfold wrap64
  omega
theorem num_loop (sign : Int) (l : List UInt8) (hl : l.length ≤ 18) (d : Nat) : ∀ (k i a : Nat), i ≤ l.length → l.length - i = d → d < k → a < 10 ^ i →
    spec_l00Number.l0 k ⟨l.toArray⟩ sign (a : Int) (i : Int) = some (if (l.drop i).all isDig = true then (wrap64 (sign * (dval a (l.drop i) : Int)), true) else (0, false)) := by
  induction d with
  | zero =>
    intro k i a hi hd hk ha
    obtain ⟨k, rfl⟩ : ∃ m, k = m + 1 := ⟨k - 1, by omega⟩
    obtain rfl : i = l.length := by omega
    simp only [spec_l00Number.l0]
    rw [if_neg (by rw [size_mk]; omega), List.drop_length]
    simp [dval]
  | succ d ih =>
    intro k i a hi hd hk ha
    obtain ⟨k, rfl⟩ : ∃ m, k = m + 1 := ⟨k - 1, by omega⟩
    have hlt : i < l.length := by omega
    have hp : 10 ^ i ≤ 100000000000000000 := by have := Nat.pow_le_pow_right (n := 10) (by decide) (show i ≤ 17 by omega); simpa using this
    have ha2 : a < 100000000000000000 := Nat.lt_of_lt_of_le ha hp
    have hps : 10 ^ (i + 1) = 10 ^ i * 10 := Nat.pow_succ ..
    have hb := bt_mk l i hlt
    have hdr := List.drop_eq_getElem_cons hlt
    simp only [spec_l00Number.l0]
    rw [if_pos (by rw [size_mk]; omega), if_pos (by omega), hb, hdr, List.all_cons]
    generalize l[i] = c
    have hc := c.toNat_lt
    by_cases h1 : (c.toNat : Int) < 48
    · rw [if_pos h1, show isDig c = false by simp [isDig]; omega]
      simp
    · rw [if_neg h1]
      by_cases h2 : (c.toNat : Int) > 57
      · rw [if_pos h2, show isDig c = false by simp [isDig]; omega]
        simp
      · rw [if_neg h2, show isDig c = true by simp [isDig]; omega]
        have hx : a * 10 + (c.toNat - 48) < 10 ^ (i + 1) := by rw [hps]; omega
        have ih' := ih k (i + 1) (a * 10 + (c.toNat - 48)) (by omega) (by omega) (by omega) hx
        have e1 : wrap64 ((wrap64 ((wrap64 ((a : Int) * 10)) + (wrap64 (c.toNat : Int)))) - 48) = ((a * 10 + (c.toNat - 48) : Nat) : Int) := by
          clear ih ih' hx hps hp ha hb hdr
          have q0 : (c.toNat : Int) ≤ 57 := by omega
          have q1 : (48 : Int) ≤ (c.toNat : Int) := by omega
          have q2 : (a : Int) < 100000000000000000 := by omega
          rw [wrap_id ((a : Int) * 10) (by omega) (by omega), wrap_id (c.toNat : Int) (by omega) (by omega), wrap_id ((a : Int) * 10 + (c.toNat : Int)) (by omega) (by omega), wrap_id ((a : Int) * 10 + (c.toNat : Int) - 48) (by omega) (by omega)]
          omega
        have e2 : wrap64 ((i : Int) + 1) = ((i + 1 : Nat) : Int) := by clear e1; rw [wrap_id ((i : Int) + 1) (by omega) (by omega)]; omega
        rw [e1, e2, ih', dval_cons, Bool.true_and]
def numM (m : List UInt8) (neg : Bool) : Int × Bool := if m = [] ∨ 18 < m.length ∨ (m.head? = some 48 ∧ (1 < m.length ∨ neg = true)) then (0, false) else if m.all isDig = true then ((if neg = true then -(dval 0 m : Int) else (dval 0 m : Int)), true) else (0, false)
theorem num_j1 (m : List UInt8) (neg : Bool) (k : Nat) (hk : 24 ≤ k) : spec_l00Number.j1 k ⟨m.toArray⟩ (if neg = true then -1 else 1) = some (numM m neg) := by
  obtain ⟨k, rfl⟩ : ∃ q, k = q + 2 := ⟨k - 2, by omega⟩
  simp only [spec_l00Number.j1, spec_l00Number.j2, size_mk, if_true]
  unfold numM
  cases m with
  | nil => simp
  | cons c r =>
    rw [if_neg (by simp <;> omega)]
    by_cases h18 : (((c :: r).length : Nat) : Int) > 18
    · rw [if_pos h18, if_pos (.inr (.inl (by omega)))]
    · rw [if_neg h18, if_pos (by simp <;> omega)]
      have hb := bt_mk (c :: r) 0 (by simp)
      rw [show ((0 : Nat) : Int) = 0 from rfl] at hb
      rw [hb]
      have hl := num_loop (if neg = true then -1 else 1) (c :: r) (by omega) (c :: r).length k 0 0 (by omega) (by omega) (by omega) (by simp)
      rw [show ((0 : Nat) : Int) = 0 from rfl, List.drop_zero] at hl
      have hd : (c :: r).all isDig = true → dval 0 (c :: r) < 1000000000000000000 := fun h => by
        have := dval_lt (c :: r) 0 h
        have hp : 10 ^ (c :: r).length ≤ 1000000000000000000 := by have := Nat.pow_le_pow_right (n := 10) (by decide) (show (c :: r).length ≤ 18 by omega); simpa using this
        omega
      have hw : (c :: r).all isDig = true → wrap64 ((if neg = true then -1 else 1) * (dval 0 (c :: r) : Int)) = (if neg = true then -(dval 0 (c :: r) : Int) else (dval 0 (c :: r) : Int)) := fun h => by
        have := hd h
        cases neg <;> (simp; unfold wrap64; omega)
      have hfin : (if (c :: r).all isDig = true then (wrap64 ((if neg = true then -1 else 1) * (dval 0 (c :: r) : Int)), true) else (0, false)) = (if (c :: r).all isDig = true then ((if neg = true then -(dval 0 (c :: r) : Int) else (dval 0 (c :: r) : Int)), true) else ((0 : Int), false)) := by
        by_cases h : (c :: r).all isDig = true
        · rw [if_pos h, if_pos h, hw h]
        · rw [if_neg h, if_neg h]
      have hc : (((c :: r)[0]'(by simp)).toNat : Int) = 48 ↔ (c :: r).head? = some 48 := by
        simp only [List.getElem_cons_zero, List.head?_cons, Option.some.injEq]
        constructor
        · intro h; apply UInt8.toNat_inj.1; show c.toNat = 48; omega
        · intro h; rw [h]; rfl
      by_cases h48 : (((c :: r)[0]'(by simp)).toNat : Int) = 48
      · rw [if_pos h48]
        by_cases h1 : (((c :: r).length : Nat) : Int) > 1
        · rw [if_pos h1, if_pos (.inr (.inr ⟨hc.1 h48, .inl (by omega)⟩))]
        · rw [if_neg h1]
          cases neg with
          | true => rw [if_pos (show (c :: r) = [] ∨ _ from .inr (.inr ⟨hc.1 h48, .inr rfl⟩))]; simp
          | false =>
            rw [if_neg (show ¬ ((c :: r) = [] ∨ 18 < (c :: r).length ∨ ((c :: r).head? = some 48 ∧ (1 < (c :: r).length ∨ false = true))) from by
              rintro (h | h | ⟨_, h | h⟩)
              · cases h
              · omega
              · omega
              · cases h), ← hfin, ← hl]
            simp
      · rw [if_neg h48, if_neg (show ¬ ((c :: r) = [] ∨ 18 < (c :: r).length ∨ ((c :: r).head? = some 48 ∧ (1 < (c :: r).length ∨ neg = true))) by
          rintro (h | h | ⟨h, _⟩)
          · cases h
          · omega
          · exact h48 (hc.2 h)), ← hfin, ← hl]
        simp
def numR (l : List UInt8) : Int × Bool := match l with
  | [] => (0, false)
  | c :: r => if c = 45 then numM r true else numM (c :: r) false
theorem number_spec (l : List UInt8) (k : Nat) (hk : 25 ≤ k) : spec_l00Number.f k ⟨l.toArray⟩ = some (numR l) := by
  obtain ⟨k, rfl⟩ : ∃ q, k = q + 1 := ⟨k - 1, by omega⟩
  unfold spec_l00Number.f numR
  have h1 := num_j1 l false k (by omega)
  cases l with
  | nil =>
    rw [if_neg (by simp [size_mk])]
    simp only [spec_l00Number.j0]
    rw [if_neg (by simp)]
    rw [if_neg (by simp)] at h1
    rw [h1]
    rfl
  | cons c r =>
    rw [if_pos (by rw [size_mk]; simp <;> omega), if_pos (by rw [size_mk]; simp <;> omega)]
    have hb := bt_mk (c :: r) 0 (by simp)
    rw [show ((0 : Nat) : Int) = 0 from rfl] at hb
    rw [hb]
    simp only [spec_l00Number.j0, List.getElem_cons_zero]
    by_cases hc : c = 45
    · subst hc
      rw [if_pos (by decide), if_pos (by rw [size_mk]; simp <;> omega), if_pos rfl]
      have h2 := num_j1 r true k (by omega)
      rw [if_pos rfl] at h2
      have e := extract_mk (45 :: r) 1
      rw [e]
      exact h2
    · have hn : ((c.toNat : Int) == 45) = false := by
        rw [beq_eq_false_iff_ne]
        intro h
        apply hc
        apply UInt8.toNat_inj.1
        show c.toNat = 45
        omega
      simp only [hn, if_neg hc, Bool.false_eq_true, if_false] at h1 ⊢
      exact h1
theorem numM_bound (m : List UInt8) (neg : Bool) (n : Int) (h : numM m neg = (n, true)) : -1000000000000000000 < n ∧ n < 1000000000000000000 := by
  unfold numM at h
  split at h
  · cases h
  · rename_i h0
    split at h
    · rename_i h1
      have := dval_lt m 0 h1
      have hp : 10 ^ m.length ≤ 1000000000000000000 := by have := Nat.pow_le_pow_right (n := 10) (by decide) (show m.length ≤ 18 by omega); simpa using this
      obtain ⟨rfl, _⟩ := Prod.mk.inj h
      cases neg <;> (simp; omega)
    · cases h
theorem numR_bound (l : List UInt8) (n : Int) (h : numR l = (n, true)) : -1000000000000000000 < n ∧ n < 1000000000000000000 := by
  unfold numR at h
  split at h
  · cases h
  · split at h
    · exact numM_bound _ _ _ h
    · exact numM_bound _ _ _ h
theorem numM_num (m : List UInt8) (neg : Bool) : -9223372036854775808 ≤ (numM m neg).1 ∧ (numM m neg).1 ≤ 9223372036854775807 := by
  rcases h : numM m neg with ⟨n, b⟩
  cases b with
  | true => have := numM_bound m neg n h; show _ ≤ n ∧ n ≤ _; omega
  | false =>
    unfold numM at h
    split at h
    · obtain ⟨rfl, _⟩ := Prod.mk.inj h; decide
    · split at h
      · cases h
      · obtain ⟨rfl, _⟩ := Prod.mk.inj h; decide
theorem numR_num (l : List UInt8) : -9223372036854775808 ≤ (numR l).1 ∧ (numR l).1 ≤ 9223372036854775807 := by
  unfold numR
  split
  · decide
  · split
    · exact numM_num _ _
    · exact numM_num _ _
theorem numR_itoa (v : Int) (h0 : -1000000000000000000 < v) (h1 : v < 1000000000000000000) : numR (Lib.itoa v) = (v, true) := by
  by_cases hv : v < 0
  · obtain ⟨u, rfl⟩ : ∃ u : Nat, v = -(u : Int) := ⟨v.natAbs, by omega⟩
    rw [itoa_of_neg u (by omega)]
    obtain ⟨i1, i2, i3⟩ := dec_dig u u (Nat.le_refl u)
    obtain ⟨c, l, e, hc⟩ := dec_head u u (Nat.le_refl u) (by omega)
    have hlen := dec_len 17 u (by omega)
    unfold numR numM
    simp only [if_true]
    rw [if_neg, if_pos i1, i2]
    rintro (h | h | ⟨h, _⟩)
    · exact i3 h
    · omega
    · rw [e] at h
      simp at h
      exact hc (by rw [h]; rfl)
  · obtain ⟨u, rfl⟩ : ∃ u : Nat, v = (u : Int) := ⟨v.toNat, by omega⟩
    rw [itoa_of_nat u]
    obtain ⟨i1, i2, i3⟩ := dec_dig u u (Nat.le_refl u)
    have hlen := dec_len 17 u (by omega)
    have hm : numM (Lib.decDigits u) false = ((u : Int), true) := by
      unfold numM
      rw [if_neg, if_pos i1, i2]
      · simp
      · rintro (h | h | ⟨h, h2⟩)
        · exact i3 h
        · omega
        · by_cases hu : u < 10
          · rw [Lib.decDigits_one hu] at h2; simp at h2
          · obtain ⟨c, l, e, hc⟩ := dec_head u u (Nat.le_refl u) (by omega)
            rw [e] at h
            simp at h
            exact hc (by rw [h]; rfl)
    unfold numR
    cases hd : Lib.decDigits u with
    | nil => exact absurd hd i3
    | cons c r =>
      rw [hd] at i1 hm
      have hc : 48 ≤ c.toNat := by rw [List.all_cons, Bool.and_eq_true] at i1; have := i1.1; simp [isDig] at this; omega
      simp only
      rw [if_neg (by intro h; rw [h] at hc; revert hc; decide)]
      exact hm
/-- A text is a number that has at most 18 digits. -/
def isNum (s : ByteArray) (v : Int) : Prop := -1000000000000000000 < v ∧ v < 1000000000000000000 ∧ s = ⟨(Lib.itoa v).toArray⟩
theorem num_spec (s : ByteArray) (k : Nat) (hk : 25 ≤ k) : ∃ n b, spec_l02Number.f k s = some (n, b) ∧ (b = true → isNum s n) ∧ ∀ v, isNum s v → b = true ∧ n = v := by
  unfold spec_l02Number.f
  have hs := number_spec s.data.toList k hk
  rw [mk_data] at hs
  rw [hs]
  simp only [Option.bind_some]
  rcases hr : numR s.data.toList with ⟨n, b⟩
  have hn := numR_num s.data.toList
  rw [hr] at hn
  cases b with
  | false =>
    refine ⟨n, false, by simp, by simp, fun v hv => ?_⟩
    obtain ⟨v0, v1, hv⟩ := hv
    subst hv
    have : (⟨(Lib.itoa v).toArray⟩ : ByteArray).data.toList = Lib.itoa v := rfl
    rw [this, numR_itoa v v0 v1] at hr
    cases hr
  | true =>
    have hb := numR_bound _ _ hr
    simp only [if_true]
    rw [digits_eq n hn.1 hn.2 k (by omega)]
    simp only [Option.bind_some]
    refine ⟨n, _, rfl, fun h => ⟨hb.1, hb.2, ?_⟩, fun v hv => ?_⟩
    · have h := beq_iff_eq.1 h
      rw [ByteArray.toList_eq, ByteArray.toList_eq] at h
      have : (⟨(Lib.itoa n).toArray⟩ : ByteArray).data.toList = s.data.toList := h
      rw [← mk_data s, ← this]
    · obtain ⟨v0, v1, hv⟩ := hv
      subst hv
      have : (⟨(Lib.itoa v).toArray⟩ : ByteArray).data.toList = Lib.itoa v := rfl
      rw [this, numR_itoa v v0 v1] at hr
      obtain ⟨rfl, _⟩ := Prod.mk.inj hr
      exact ⟨by simp, rfl⟩
theorem num_impl (s : ByteArray) (hs : s.size ≤ 1048576) : ∃ n b, impl_number.f s = some (n, b) ∧ (b = true → isNum s n) ∧ ∀ v, isNum s v → b = true ∧ n = v := by
  unfold impl_number.f
  rw [if_pos (by omega)]
  rcases hr : numB s with ⟨n, b⟩
  refine ⟨n, b, rfl, fun h => ?_, fun v hv => ?_⟩
  · subst h
    unfold numB at hr
    split at hr
    · obtain ⟨rfl, h2⟩ := Prod.mk.inj hr
      simp only [Bool.and_eq_true, decide_eq_true_eq] at h2
      obtain ⟨h3, h4, h5⟩ := h2
      refine ⟨by omega, by omega, ?_⟩
      have h := beq_iff_eq.1 h3
      rw [ByteArray.toList_eq, ByteArray.toList_eq] at h
      unfold strI at h
      rw [← mk_data s, ← h]
    · cases hr
    · cases hr
  · obtain ⟨v0, v1, hv⟩ := hv
    subst hv
    unfold numB at hr
    have e : (⟨(Lib.itoa v).toArray⟩ : ByteArray).data.toList = Lib.itoa v := rfl
    rw [e, atoi_itoa v v0 v1] at hr
    obtain ⟨rfl, h2⟩ := Prod.mk.inj hr
    subst h2
    refine ⟨?_, rfl⟩
    simp only [strI, Bool.and_eq_true, decide_eq_true_eq]
    exact ⟨by simp, by omega, by omega⟩
theorem num_same (s : ByteArray) (hs : s.size ≤ 1048576) (k : Nat) (hk : 25 ≤ k) : ∃ n m b, spec_l02Number.f k s = some (n, b) ∧ impl_number.f s = some (m, b) ∧ (b = true → n = m) := by
  obtain ⟨n, b, h1, h2, h3⟩ := num_spec s k hk
  obtain ⟨m, c, g1, g2, g3⟩ := num_impl s hs
  cases b with
  | true =>
    obtain ⟨hc, hm⟩ := g3 n (h2 rfl)
    subst hc
    exact ⟨n, m, true, h1, g1, fun _ => hm.symm⟩
  | false =>
    cases c with
    | false => exact ⟨n, m, false, h1, g1, by simp⟩
    | true => have := (h3 m (g2 rfl)).1; cases this
/-- whether a text begins so -/
def preB (s p : ByteArray) : Bool := if (p.size : Int) ≤ (s.size : Int) then (s.extract 0 p.size).toList == p.toList else false
theorem spre_eq (s p : ByteArray) : spec_l01Prefix.f s p = some (preB s p) := by
  unfold spec_l01Prefix.f preB
  by_cases h : (p.size : Int) ≤ (s.size : Int)
  · have h0 : (0 : Int) ≤ (p.size : Int) := by omega
    simp only [ge_iff_le, if_pos h, if_pos h0, Int.toNat_natCast]
  · simp only [ge_iff_le, if_neg h]
theorem ipre_eq (s p : ByteArray) : strings_HasPrefix.f s p = some (preB s p) := by
  unfold strings_HasPrefix.f stringslite_HasPrefix.f preB
  by_cases h : (p.size : Int) ≤ (s.size : Int)
  · have h0 : (0 : Int) ≤ (p.size : Int) := by omega
    simp only [ge_iff_le, if_pos h, if_pos h0, Int.toNat_natCast, Option.bind_some]
  · simp only [ge_iff_le, if_neg h, Option.bind_some]
/-- the keys that begin so -/
def pk (l : List S51) (p : ByteArray) : List ByteArray := (l.filter fun x => preB x.f0 p).map (·.f0)
theorem pk_len (l : List S51) (p : ByteArray) : (pk l p).length ≤ l.length := by
  unfold pk
  rw [List.length_map]
  exact List.length_filter_le _ _
theorem pk_cons (x : S51) (l : List S51) (p : ByteArray) : pk (x :: l) p = if preB x.f0 p = true then x.f0 :: pk l p else pk l p := by
  unfold pk
  rw [List.filter_cons]
  cases preB x.f0 p <;> simp
theorem rd_nat (l : List S51) (i : Nat) (h : i < l.length) : rd_T51 l (i : Int) = l[i] := by
  unfold rd_T51
  rw [Int.toNat_natCast, List.getD_eq_getElem?_getD, List.getElem?_eq_getElem h]
  rfl
theorem ikeys_loop (l : List S51) (hl : l.length ≤ 1048576) (p : ByteArray) : ∀ (d k i : Nat) (out : List ByteArray), i + d = l.length → d < k → out.length ≤ i → impl_Store_keys.l0 k p out l (l.length : Int) (i : Int) = some (out ++ pk (l.drop i) p)
  | 0, 0, _, _, _, hk, _ => by omega
  | d + 1, 0, _, _, _, hk, _ => by omega
  | 0, k + 1, i, out, hi, _, _ => by
    simp only [impl_Store_keys.l0]
    rw [if_neg (by omega), List.drop_eq_nil_of_le (by omega)]
    simp [pk]
  | d + 1, k + 1, i, out, hi, hk, ho => by
    have h : i < l.length := by omega
    have hw : wrap64 ((i : Int) + 1) = ((i + 1 : Nat) : Int) := by unfold wrap64; omega
    simp only [impl_Store_keys.l0]
    rw [if_pos (by omega), if_pos (by omega), if_pos (by omega), rd_nat l i h, ipre_eq, Option.bind_some, hw, List.drop_eq_getElem_cons h, pk_cons]
    cases hp : preB l[i].f0 p with
    | true =>
      rw [if_pos rfl, if_pos rfl, if_pos (by omega), ikeys_loop l hl p d k (i + 1) _ (by omega) (by omega) (by rw [List.length_append]; simp; omega), List.append_assoc]
      rfl
    | false =>
      rw [if_neg (by decide), if_neg (by decide), ikeys_loop l hl p d k (i + 1) _ (by omega) (by omega) (by omega)]
/-- "pin/" -/
def pinP : ByteArray := ⟨#[112, 105, 110, 47]⟩
theorem get_at (l : List S51) (hl : l.length ≤ 1048576) (next : Int) (h : objsB l next 0 = true) (i : Nat) (hi : i < l.length) : impl_Store_get.f l next l[i].f0 = some (l[i].f2, true) := by
  have hgi : l.getD i z51 = l[i] := by rw [List.getD_eq_getElem?_getD, List.getElem?_eq_getElem hi]; rfl
  unfold impl_Store_get.f
  rw [ifind_eq l hl next h]
  rcases find_both l next h l[i].f0 with ⟨a1, a2, a3, a4⟩ | ⟨a1, a2⟩
  · have hc : cntK l l[i].f0 = i := by
      rcases Nat.lt_trichotomy (cntK l l[i].f0) i with h1 | h1 | h1
      · have := key_lt l next h h1 hi
        rw [a4, hgi, bl_irr] at this
        cases this
      · exact h1
      · have := key_lt l next h h1 a3
        rw [a4, hgi, bl_irr] at this
        cases this
    rw [a1, hc]
    simp only [Option.bind_some, rd148_cnt, if_true]
    rw [if_pos (by omega), if_pos (by omega), hgi]
  · exfalso
    rcases findZ_spec l[i].f0 l 0 with ⟨e, ha⟩ | ⟨t, ht, e, hk⟩
    · exact ha i hi (by rw [hgi])
    · rw [a2] at e
      omega
/-- whether a pin may last no more -/
def pinB (now : Int) (x : S51) : Bool := match impl_number.f x.f2 with
  | some (m, b) => b && decide (wrap64 (m + 6) < now)
  | none => false
theorem pinE_at (l : List S51) (hl : l.length ≤ 1048576) (next now : Int) (h : objsB l next 0 = true) (x : S51) (hx : x ∈ l) (hs : x.f2.size ≤ 1048576) : pinE l next now x.f0 = some (pinB now x) := by
  obtain ⟨i, hi, rfl⟩ := List.getElem_of_mem hx
  unfold pinE pinB
  rw [get_at l hl next h i hi, Option.bind_some]
  obtain ⟨n, m, b, _, s2, _⟩ := num_same l[i].f2 hs 25 (Nat.le_refl _)
  rw [s2]
  rfl
def pinL (l : List S51) (now : Int) : List ByteArray := ((l.filter fun x => preB x.f0 pinP).filter fun x => !(pinB now x)).map (·.f0)
theorem pinL_len (l : List S51) (now : Int) : (pinL l now).length ≤ l.length := by
  unfold pinL
  rw [List.length_map]
  exact Nat.le_trans (List.length_filter_le _ _) (List.length_filter_le _ _)
theorem pinL_cons (x : S51) (l : List S51) (now : Int) : pinL (x :: l) now = if preB x.f0 pinP = true then (if pinB now x = true then pinL l now else x.f0 :: pinL l now) else pinL l now := by
  unfold pinL
  rw [List.filter_cons]
  cases preB x.f0 pinP with
  | false => simp
  | true =>
    rw [if_pos rfl, if_pos rfl, List.filter_cons]
    cases pinB now x <;> simp
theorem ipins_eq (l : List S51) (hl : l.length ≤ 1048576) (hs : ∀ x ∈ l, x.f2.size ≤ 1048576) (next now : Int) (h : objsB l next 0 = true) (k : Nat) (hk : l.length < k) : impl_Store_pins.f k l next now = some (pinL l now) := by
  unfold impl_Store_pins.f impl_Store_keys.f
  have hke := ikeys_loop l hl pinP l.length k 0 [] (by omega) hk (by simp)
  rw [show ((0 : Nat) : Int) = 0 from rfl, List.nil_append, List.drop_zero] at hke
  rw [show (⟨#[112, 105, 110, 47]⟩ : ByteArray) = pinP from rfl, hke, Option.bind_some]
  have hall : ((pk l pinP).all fun x => (pinE l next now x).isSome) = true := by
    rw [List.all_eq_true]
    intro x hx
    unfold pk at hx
    obtain ⟨y, hy, rfl⟩ := List.mem_map.1 hx
    have hy' := (List.mem_filter.1 hy).1
    show (pinE l next now y.f0).isSome = true
    rw [pinE_at l hl next now h y hy' (hs y hy')]
    rfl
  have hlen := pk_len l pinP
  rw [if_pos ⟨by omega, hall⟩]
  congr 1
  unfold pk pinL
  rw [List.filter_map]
  congr 1
  apply List.filter_congr
  intro y hy
  have hy' := (List.mem_filter.1 hy).1
  show (!(pinE l next now y.f0 == some true)) = !(pinB now y)
  rw [pinE_at l hl next now h y hy' (hs y hy')]
  cases pinB now y <;> rfl
theorem spins_loop (l : List S51) (hl : l.length ≤ 1048576) (hs : ∀ x ∈ l, x.f2.size ≤ 1048576) (next now : Int) : ∀ (d k i : Nat) (out : List ByteArray), i + d = l.length → d + 30 < k → out.length ≤ i →
    spec_l10Pins.l0 k now out (i : Int) l next = some (out ++ pinL (l.drop i) now)
  | 0, 0, _, _, _, hk, _ => by omega
  | d + 1, 0, _, _, _, hk, _ => by omega
  | 0, k + 1, i, out, hi, _, _ => by
    simp only [spec_l10Pins.l0]
    rw [if_neg (by omega), List.drop_eq_nil_of_le (by omega)]
    simp [pinL]
  | d + 1, k + 1, i, out, hi, hk, ho => by
    have h : i < l.length := by omega
    have hw : wrap64 ((i : Int) + 1) = ((i + 1 : Nat) : Int) := by unfold wrap64; omega
    obtain ⟨n, m, b, s1, s2, s3⟩ := num_same l[i].f2 (hs _ (List.getElem_mem h)) k (by omega)
    have hpb : pinB now l[i] = (b && decide (wrap64 (m + 6) < now)) := by
      unfold pinB
      rw [s2]
    simp only [spec_l10Pins.l0]
    rw [if_pos (by omega), if_pos (by omega), rd_nat l i h, show (⟨#[112, 105, 110, 47]⟩ : ByteArray) = pinP from rfl, spre_eq, Option.bind_some, s1, Option.bind_some, hw, List.drop_eq_getElem_cons h, pinL_cons, hpb]
    cases hp : preB l[i].f0 pinP with
    | false =>
      rw [if_neg (by decide), if_neg (by decide), spins_loop l hl hs next now d k (i + 1) _ (by omega) (by omega) (by omega)]
    | true =>
      rw [if_pos rfl, if_pos rfl]
      cases b with
      | false =>
        simp only [Bool.false_and, Bool.false_eq_true, if_false]
        rw [if_pos (by omega), spins_loop l hl hs next now d k (i + 1) _ (by omega) (by omega) (by rw [List.length_append]; simp; omega), List.append_assoc]
        rfl
      | true =>
        obtain rfl := s3 rfl
        simp only [Bool.true_and, if_true, decide_eq_true_eq]
        by_cases hn : wrap64 (n + 6) ≥ now
        · rw [if_pos hn, if_pos (show out.length < 8796093022208 by omega), if_neg (show ¬ wrap64 (n + 6) < now by omega), spins_loop l hl hs next now d k (i + 1) _ (by omega) (by omega) (by rw [List.length_append]; simp; omega), List.append_assoc]
          rfl
        · rw [if_neg hn, if_pos (by omega), spins_loop l hl hs next now d k (i + 1) _ (by omega) (by omega) (by omega)]
/-- what PinsAt answers -/
def pinR (l : List S51) (next now : Int) : List ByteArray × Int :=
  if storeB l next = true then (if (decide (0 ≤ now) && decide (now ≤ 101000)) = true then (pinL l now, 0) else ([], 4)) else ([], 1)
theorem pinR_len (l : List S51) (next now : Int) : (pinR l next now).1.length ≤ l.length := by
  unfold pinR
  split
  · split
    · exact pinL_len l now
    · simp
  · simp
theorem pins_same (l : List S51) (hl : l.length ≤ 1048576) (hs0 : ∀ x ∈ l, x.f0.size ≤ 140737488351232) (hs : ∀ x ∈ l, x.f2.size ≤ 1048576) (next now : Int) (k : Nat) (hk : l.length * (l.length + 5) + 140737488351232 + 3000000 < k) :
    spec_PinsAt.f k l next now = some (pinR l next now) ∧ impl_PinsAt.f k l next now = some (pinR l next now) := by
  obtain ⟨h1, h2⟩ := store_same l hl 140737488351232 (by omega) hs0 next k (by omega)
  have f2 : ∀ b1 b2 c1 c2, impl_first.f k [anyB b1, anyI c1, anyB b2, anyI c2] = some (if b1 = true then c1 else if b2 = true then c2 else 0) := by
    obtain ⟨m, rfl⟩ : ∃ m, k = m + 3 := ⟨k - 3, by omega⟩
    exact first2 m
  unfold spec_PinsAt.f impl_PinsAt.f spec_l05Now.f impl_isNow.f pinR spec_l10Pins.f
  simp only [h1, h2, in_eq, within_eq, f2, Option.bind_some]
  cases hst : storeB l next with
  | false => exact ⟨by simp, by simp⟩
  | true =>
    have ho := storeB_objs hst
    have hi := ipins_eq l hl hs next now ho k (by omega)
    have hsp := spins_loop l hl hs next now l.length k 0 [] (by omega) (by omega) (by simp)
    rw [show ((0 : Nat) : Int) = 0 from rfl, List.nil_append, List.drop_zero] at hsp
    rw [hi, hsp]
    cases (decide (0 ≤ now) && decide (now ≤ 101000)) with
    | false => exact ⟨by simp, by simp⟩
    | true => exact ⟨by simp, by simp⟩
theorem FnExactPinsAt : laws_FnExactPinsAt.Pure := by
  intro l next now ⟨_, hl, sl⟩ _ _
  obtain ⟨D, hD⟩ : ∃ D, D = l.length * (l.length + 5) := ⟨_, rfl⟩
  obtain ⟨K, hK⟩ : ∃ K : Nat, K = D + 140737500000000 := ⟨_, rfl⟩
  refine ⟨K + 3, ?_⟩
  obtain ⟨r1, s1, b1⟩ := szObjectS_tot l (fun x hx => ⟨(sl x hx).1, (sl x hx).2.2⟩) 1048576 (by omega) (by omega) (by omega) (K + 3) (by omega)
  unfold laws_FnExactPinsAt.f laws_szStore.f
  rw [s1]
  simp only [Option.bind_some]
  by_cases ca : r1 < 0
  · simp [ca]
  have b1 := b1 (by omega)
  have la : (l.map cvObject).length = l.length := by simp
  have hsz : ∀ x ∈ l.map cvObject, x.f0.size ≤ 1048576 := fun x hx => by
    obtain ⟨y, hy, rfl⟩ := List.mem_map.1 hx
    have := (b1.2.2 y hy).1
    show y.f0.size ≤ 1048576
    omega
  have hs : ∀ x ∈ l.map cvObject, x.f0.size ≤ 140737488351232 := fun x hx => by
    obtain ⟨y, hy, rfl⟩ := List.mem_map.1 hx
    exact (sl y hy).1
  have hs2 : ∀ x ∈ l.map cvObject, x.f2.size ≤ 1048576 := fun x hx => by
    obtain ⟨y, hy, rfl⟩ := List.mem_map.1 hx
    have := (b1.2.2 y hy).2
    show y.f2.size ≤ 1048576
    omega
  have key1 := fun k hk => (pins_same (l.map cvObject) (by omega) hs hs2 next now k hk).1
  have key2 := fun k hk => (pins_same (l.map cvObject) (by omega) hs hs2 next now k hk).2
  have hrl := pinR_len (l.map cvObject) next now
  rw [la, ← hD] at key1 key2
  rw [la] at hrl
  generalize pinR (l.map cvObject) next now = R at key1 key2 hrl
  obtain ⟨r, c⟩ := R
  replace hrl : r.length ≤ l.length := hrl
  have h1 := key1 (K + 3) (by omega)
  have h2 := key2 (K + 3) (by omega)
  have h4 := key2 (K + 1) (by omega)
  have h3 : r.length ≤ 1048576 := by omega
  simp only [ca, if_false, Option.bind_some, laws_toStore.f, toObjectS_eq l (by omega) (K + 3) (by omega), h1, h2]
  rw [eqStringS_same r h3 (K + 3) (by omega)]
  simp only [Option.bind_some, if_true, bne_self_eq_false]
  simp only [laws_FnExactPinsAt.j0, Bool.false_eq_true, if_false, laws_toStore.f, toObjectS_eq l (by omega) (K + 2) (by omega), Option.bind_some, laws_eqStore.f, eqObjectS_same (l.map cvObject) (by omega) (K + 2) (by omega), if_true, laws_markStore.f, markObjectS_eq (l.map cvObject) 1 (K + 2) (by omega) (by omega) (by omega) (by omega)]
  rw [if_neg (by omega), eqStringS_same r h3 (K + 2) (by omega)]
  simp only [Option.bind_some, if_true, bne_self_eq_false]
  simp only [laws_FnExactPinsAt.j1, Bool.false_eq_true, if_false]
  rw [markStringS_eq r 1 (K + 1) (by omega) (by omega) (by omega) (by omega)]
  simp only [Option.bind_some]
  rw [heldStringS_eq r.length 1 (K + 1) (by omega) (by omega) (by omega) (by omega)]
  simp only [Option.bind_some]
  rw [if_neg (by omega), if_pos trivial]
  simp only [laws_toStore.f]
  rw [toObjectS_eq l (by omega) (K + 1) (by omega)]
  simp only [Option.bind_some]
  rw [h4]
  simp only [Option.bind_some]
  rw [eqStringS_same r h3 (K + 1) (by omega)]
  simp only [Option.bind_some, if_true, bne_self_eq_false, laws_FnExactPinsAt.j2, Bool.false_eq_true, if_false]
  rw [heldStringS_eq r.length 1 K (by omega) (by omega) (by omega) (by omega)]
  simp only [Option.bind_some]
  rw [if_neg (by omega)]
  first | rw [if_pos rfl] | rw [if_pos trivial]

end Go.Proofs.YtbodkbaniebfaaaDoor.Pure
