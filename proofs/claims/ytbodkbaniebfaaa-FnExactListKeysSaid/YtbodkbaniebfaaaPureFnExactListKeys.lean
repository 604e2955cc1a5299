/- The pure law of FnExactListKeys: what the printed functions compute answers true for every input of the kinds and sizes that the statement gives. -/
import Derived.Test.YtbodkbaniebfaaaKinFnExactListKeys
namespace Go.Proofs.Ytbodkbaniebfaaa.Pure
open Go.RowKit Go.Proofs.YtbodkbaniebfaaaW.PrintWords Go.Proofs.YtbodkbaniebfaaaW.PrintLast Go.Proofs.Ytbodkbaniebfaaa.XFnExactListKeys
set_option linter.unusedSimpArgs false
set_option linter.unusedVariables false

-- BODY
theorem within_eq (a b c : Int) : impl_within.f a b c = some (decide (b ≤ a) && decide (a ≤ c)) := by
  unfold impl_within.f; by_cases h : b ≤ a <;> simp [h]
theorem in_eq (a b c : Int) : spec_l01In.f a b c = some (decide (b ≤ a) && decide (a ≤ c)) := by
  unfold spec_l01In.f; by_cases h : b ≤ a <;> simp [h]
theorem first2 (k : Nat) (b1 b2 : Bool) (c1 c2 : Int) : impl_first.f (k + 3) [anyB b1, anyI c1, anyB b2, anyI c2] = some (if b1 = true then c1 else if b2 = true then c2 else 0) := by
  have w1 : wrap64 1 = 1 := by unfold wrap64; omega
  have w2 : wrap64 2 = 2 := by unfold wrap64; omega
  have w3 : wrap64 3 = 3 := by unfold wrap64; omega
  have w4 : wrap64 4 = 4 := by unfold wrap64; omega
  have w5 : wrap64 5 = 5 := by unfold wrap64; omega
  cases b1 <;> cases b2 <;> simp [impl_first.f, impl_first.l0, w1, w2, w3, w4, w5, rdOf, anyAsB, anyAsI]
theorem first3 (k : Nat) (b1 b2 b3 : Bool) (c1 c2 c3 : Int) : impl_first.f (k + 4) [anyB b1, anyI c1, anyB b2, anyI c2, anyB b3, anyI c3] = some (if b1 = true then c1 else if b2 = true then c2 else if b3 = true then c3 else 0) := by
  have w1 : wrap64 1 = 1 := by unfold wrap64; omega
  have w2 : wrap64 2 = 2 := by unfold wrap64; omega
  have w3 : wrap64 3 = 3 := by unfold wrap64; omega
  have w4 : wrap64 4 = 4 := by unfold wrap64; omega
  have w5 : wrap64 5 = 5 := by unfold wrap64; omega
  have w6 : wrap64 6 = 6 := by unfold wrap64; omega
  have w7 : wrap64 7 = 7 := by unfold wrap64; omega
  cases b1 <;> cases b2 <;> cases b3 <;> simp [impl_first.f, impl_first.l0, w1, w2, w3, w4, w5, w6, w7, rdOf, anyAsB, anyAsI]
/-- list places, as the printed loops spell them -/
theorem cast_wrap {i n : Nat} (h : i < n) (hn : n ≤ 140737488351232) : wrap64 ((i : Int) + 1) = ((i + 1 : Nat) : Int) := by unfold wrap64; omega
theorem take_set_succ {α : Type} (l : List α) (i : Nat) (v : α) (h : i < l.length) : (l.set i v).take (i + 1) = l.take i ++ [v] := by
  rw [List.take_succ_eq_append_getElem (by simpa using h)]
  simp only [List.take_set, List.getElem_set_self]
  rw [List.set_eq_of_length_le (by simp; omega)]
theorem strOf_one (c : Int) : (strOfNums [c]).size = 1 := by rfl
theorem markText_loop (d : Nat) : ∀ (k : Nat) (x : Int) (s : ByteArray), 0 ≤ x → x ≤ 9223372036854775807 → x < 10 ^ d → d < k → s.size + d ≤ 100 → ∃ r, laws_markText.l0 k x s = some r := by
  induction d with
  | zero =>
    intro k x s h0 h2 h1 hk hs
    obtain ⟨k, rfl⟩ : ∃ m, k = m + 1 := ⟨k - 1, by omega⟩
    simp only [laws_markText.l0]
    rw [if_neg (by omega), if_pos (by omega)]
    exact ⟨_, rfl⟩
  | succ d ih =>
    intro k x s h0 h2 h1 hk hs
    obtain ⟨k, rfl⟩ : ∃ m, k = m + 1 := ⟨k - 1, by omega⟩
    simp only [laws_markText.l0, Option.bind_some]
    by_cases hx : x > 0
    · rw [if_pos hx, strOf_one, if_pos (by omega)]
      have hp : (10 : Int) ^ (d + 1) = 10 ^ d * 10 := Int.pow_succ 10 d
      rw [hp] at h1
      generalize (10 : Int) ^ d = q at *
      have hd : Int.tdiv x 10 = x / 10 := Int.tdiv_eq_ediv_of_nonneg h0
      have hw : wrap64 (Int.tdiv x 10) = x / 10 := by
        rw [hd]
        unfold wrap64
        omega
      rw [hw]
      refine ih k _ _ (by omega) (by omega) (by omega) (by omega) ?_
      rw [ByteArray.size_append, strOf_one]
      omega
    · rw [if_neg hx, if_pos (by omega)]
      exact ⟨_, rfl⟩
/-- the mark of place m -/
def mt (m : Int) : ByteArray := (laws_markText.f 20 m).getD ⟨#[]⟩
theorem mt_eq (m : Int) (h0 : 0 ≤ m) (h1 : m < 1000000000000000) (k : Nat) (hk : 20 ≤ k) : laws_markText.f k m = some (mt m) := by
  have h20 : laws_markText.f 20 m = some (mt m) := by
    have : ∃ r, laws_markText.f 20 m = some r := by
      unfold laws_markText.f
      by_cases hm : m ≤ 0
      · rw [if_pos hm]; exact ⟨_, rfl⟩
      · rw [if_neg hm]
        exact markText_loop 15 20 m _ (by omega) (by omega) (by rw [show (10 : Int) ^ 15 = 1000000000000000 by decide]; exact h1) (by omega) (by decide)
    obtain ⟨r, hr⟩ := this
    unfold mt
    rw [hr]
    rfl
  obtain ⟨d, rfl⟩ : ∃ d, k = 20 + d := ⟨k - 20, by omega⟩
  clear hk
  induction d with
  | zero => exact h20
  | succ d ih => exact laws_markText.mono m (20 + d) _ ih
theorem rd71_at (l : List S71) (i : Nat) (h : i < l.length) : rd_T71 l (i : Int) = l[i] := by
  unfold rd_T71; rw [Int.toNat_natCast, List.getD_eq_getElem?_getD, List.getElem?_eq_getElem h]; rfl
theorem rd70_at (l : List S70) (i : Nat) (h : i < l.length) : rd_T70 l (i : Int) = l[i] := by
  unfold rd_T70; rw [Int.toNat_natCast, List.getD_eq_getElem?_getD, List.getElem?_eq_getElem h]; rfl
def cvObject (x : S70) : S71 := ⟨x.f0, x.f1, x.f2⟩
theorem toObjectS_loop (l : List S70) (hl : l.length ≤ 1048576) (d : Nat) : ∀ (k i : Nat) (x : List S71), x.length = l.length → i ≤ l.length → l.length - i = d → d < k →
    laws_toObjectS.l0 k l x (i : Int) = some (x.take i ++ (l.drop i).map cvObject) := by
  induction d with
  | zero =>
    intro k i x hx hi hd hk
    obtain ⟨k, rfl⟩ : ∃ m, k = m + 1 := ⟨k - 1, by omega⟩
    obtain rfl : i = l.length := by omega
    simp only [laws_toObjectS.l0]
    rw [if_neg (by omega), List.drop_length, List.map_nil, List.append_nil, ← hx, List.take_length]
  | succ d ih =>
    intro k i x hx hi hd hk
    obtain ⟨k, rfl⟩ : ∃ m, k = m + 1 := ⟨k - 1, by omega⟩
    have hlt : i < l.length := by omega
    simp only [laws_toObjectS.l0, laws_toObject.f, Option.bind_some]
    rw [if_pos (by omega), if_pos (by omega), if_pos (by omega), rd70_at l i hlt, cast_wrap hlt (by omega), ih k (i + 1) _ (by simpa using hx) (by omega) (by omega) (by omega), Int.toNat_natCast, take_set_succ _ _ _ (by omega),
      List.drop_eq_getElem_cons hlt, List.map_cons, List.append_assoc]
    rfl
theorem toObjectS_eq (l : List S70) (hl : l.length ≤ 1048576) (k : Nat) (hk : l.length < k) : laws_toObjectS.f k l = some (l.map cvObject) := by
  unfold laws_toObjectS.f
  rw [if_pos (by omega), if_pos (by omega)]
  have := toObjectS_loop l hl l.length k 0 (List.replicate ((l.length : Int)).toNat z71) (by simp) (by omega) (by omega) hk
  refine Eq.trans this ?_
  simp
theorem eqObject_same (x0 : ByteArray) (x1 : Int) (x2 : ByteArray) : laws_eqObject.f x0 x1 x2 x0 x1 x2 = some true := by simp [laws_eqObject.f]
theorem eqObjectS_loop (a : List S71) (hl : a.length ≤ 1048576) (d : Nat) : ∀ (k i : Nat), i ≤ a.length → a.length - i = d → d < k → laws_eqObjectS.l0 k a a (i : Int) = some true := by
  induction d with
  | zero =>
    intro k i hi hd hk
    obtain ⟨k, rfl⟩ : ∃ m, k = m + 1 := ⟨k - 1, by omega⟩
    simp only [laws_eqObjectS.l0]
    rw [if_neg (by omega)]
  | succ d ih =>
    intro k i hi hd hk
    obtain ⟨k, rfl⟩ : ∃ m, k = m + 1 := ⟨k - 1, by omega⟩
    have hlt : i < a.length := by omega
    simp only [laws_eqObjectS.l0]
    rw [if_pos (by omega), if_pos (by omega), if_pos (by omega), eqObject_same, cast_wrap hlt (by omega), ih k (i + 1) (by omega) (by omega) (by omega)]
    simp
theorem eqObjectS_same (a : List S71) (hl : a.length ≤ 1048576) (k : Nat) (hk : a.length < k) : laws_eqObjectS.f k a a = some true := by
  unfold laws_eqObjectS.f
  rw [if_pos rfl]
  exact eqObjectS_loop a hl a.length k 0 (by omega) (by omega) hk
/-- the mark of an element -/
def mkObject (m : Int) : S71 := ⟨mt (m), m + 1, mt (m + 1 + 1)⟩
def marksObject : Nat → Int → List S71
  | 0, _ => []
  | d + 1, m => mkObject m :: marksObject d (m + 1 + 1 + 1)
theorem markObjectS_loop (d : Nat) : ∀ (k i : Nat) (l : List S71) (m : Int), i ≤ l.length → l.length - i = d → d + 20 < k → l.length ≤ 1048576 → 0 ≤ m → m + 3 * d ≤ 100000000000000 →
    laws_markObjectS.l0 k l m (i : Int) = some (m + 3 * d, l.take i ++ marksObject d m) := by
  induction d with
  | zero =>
    intro k i l m hi hd hk hl h0 hm
    obtain ⟨k, rfl⟩ : ∃ m, k = m + 1 := ⟨k - 1, by omega⟩
    obtain rfl : i = l.length := by omega
    simp only [laws_markObjectS.l0]
    rw [if_neg (by omega)]
    simp [marksObject]
  | succ d ih =>
    intro k i l m hi hd hk hl h0 hm
    obtain ⟨k, rfl⟩ : ∃ m, k = m + 1 := ⟨k - 1, by omega⟩
    have hlt : i < l.length := by omega
    have hc : ((d + 1 : Nat) : Int) = (d : Int) + 1 := by omega
    rw [hc] at hm
    have w1 : wrap64 (m + 1) = m + 1 := by unfold wrap64; omega
    have w2 : wrap64 (m + 1 + 1) = m + 1 + 1 := by unfold wrap64; omega
    have w3 : wrap64 (m + 1 + 1 + 1) = m + 1 + 1 + 1 := by unfold wrap64; omega
    have rs : ∀ (l : List S71) (v : S71), i < l.length → rd_T71 (l.set i v) (i : Int) = v := fun l v h => by rw [rd71_at _ _ (by simpa using h), List.getElem_set_self]
    simp only [laws_markObjectS.l0, Option.bind_some, Int.toNat_natCast, mt_eq (m) (by omega) (by omega) k (by omega), mt_eq (m + 1 + 1) (by omega) (by omega) k (by omega), w1, w2, w3]
    rw [if_pos (by omega), if_pos (by omega)]
    simp only [List.set_set, List.length_set, rs _ _ hlt, rd71_at l i hlt, cast_wrap hlt (by omega)]
    rw [ih k (i + 1) _ (m + 1 + 1 + 1) (by simp; omega) (by simp; omega) (by omega) (by simpa using hl) (by omega) (by omega), take_set_succ _ _ _ hlt, List.append_assoc]
    simp only [marksObject, List.singleton_append, Option.some.injEq, Prod.mk.injEq]
    exact ⟨by omega, rfl⟩
theorem markObjectS_eq (l : List S71) (m : Int) (k : Nat) (hk : l.length + 20 < k) (hl : l.length ≤ 1048576) (h0 : 0 ≤ m) (hm : m + 3 * l.length ≤ 100000000000000) : laws_markObjectS.f k l m = some (m + 3 * l.length, marksObject l.length m) := by
  have := markObjectS_loop l.length k 0 l m (by omega) (by omega) hk hl h0 hm
  unfold laws_markObjectS.f
  refine Eq.trans this ?_
  simp
theorem marksObject_length : ∀ (d : Nat) (m : Int), (marksObject d m).length = d
  | 0, _ => rfl
  | d + 1, m => by simp [marksObject, marksObject_length d]
theorem szObject_tot (x0 : ByteArray) (x1 : Int) (x2 : ByteArray) (a : Int) (h0 : 0 ≤ a) (h1 : a ≤ 1048576) (hs0 : x0.size ≤ 140737488351232) (hs1 : x2.size ≤ 140737488351232) : ∃ r, laws_szObject.f x0 x1 x2 a = some r ∧ (0 ≤ r → r ≤ a ∧ (x0.size : Int) ≤ a ∧ (x2.size : Int) ≤ a) := by
  unfold laws_szObject.f
  have w0 : wrap64 (a - (x0.size : Int)) = a - (x0.size : Int) := by unfold wrap64; omega
  have w1 : wrap64 (a - (x0.size : Int) - (x2.size : Int)) = a - (x0.size : Int) - (x2.size : Int) := by unfold wrap64; omega
  simp only [w0, w1]
  by_cases c0 : a - (x0.size : Int) < 0
  · rw [if_pos c0]; exact ⟨-1, rfl, fun h => by omega⟩
  rw [if_neg c0]
  by_cases c1 : a - (x0.size : Int) - (x2.size : Int) < 0
  · rw [if_pos c1]; exact ⟨-1, rfl, fun h => by omega⟩
  rw [if_neg c1]
  exact ⟨_, rfl, fun _ => by omega⟩
theorem szObjectS_loop (l : List S70) (hl : l.length ≤ 1048576) (hs : ∀ x ∈ l, x.f0.size ≤ 140737488351232 ∧ x.f2.size ≤ 140737488351232) (d : Nat) : ∀ (k i : Nat) (a : Int), i ≤ l.length → l.length - i = d → d < k → 0 ≤ a → a ≤ 1048576 → ∃ r, laws_szObjectS.l0 k l a (i : Int) = some r ∧ (0 ≤ r → r ≤ a ∧ ∀ j (h : j < l.length), i ≤ j → ((l[j].f0).size : Int) ≤ a ∧ ((l[j].f2).size : Int) ≤ a) := by
  induction d with
  | zero =>
    intro k i a hi hd hk h0 h1
    obtain ⟨k, rfl⟩ : ∃ m, k = m + 1 := ⟨k - 1, by omega⟩
    simp only [laws_szObjectS.l0]
    rw [if_neg (by omega)]
    exact ⟨a, rfl, fun _ => ⟨Int.le_refl _, fun j h hj => by omega⟩⟩
  | succ d ih =>
    intro k i a hi hd hk h0 h1
    obtain ⟨k, rfl⟩ : ∃ m, k = m + 1 := ⟨k - 1, by omega⟩
    have hlt : i < l.length := by omega
    have hsi := hs l[i] (List.getElem_mem hlt)
    obtain ⟨r, hr, hb⟩ := szObject_tot l[i].f0 l[i].f1 l[i].f2 a h0 h1 hsi.1 hsi.2
    simp only [laws_szObjectS.l0]
    rw [if_pos (by omega), if_pos (by omega), rd70_at l i hlt, hr]
    simp only [Option.bind_some]
    by_cases hn : r < 0
    · rw [if_pos hn]; exact ⟨-1, rfl, fun h => by omega⟩
    · rw [if_neg hn, cast_wrap hlt (by omega)]
      have hb' := hb (by omega)
      obtain ⟨q, hq, hqb⟩ := ih k (i + 1) r (by omega) (by omega) (by omega) (by omega) (by omega)
      refine ⟨q, hq, fun h => ⟨by have := hqb h; omega, fun j hj hij => ?_⟩⟩
      have hqb' := hqb h
      by_cases e : j = i
      · subst e; omega
      · have := hqb'.2 j hj (by omega)
        omega
theorem szObjectS_tot (l : List S70) (hs : ∀ x ∈ l, x.f0.size ≤ 140737488351232 ∧ x.f2.size ≤ 140737488351232) (a : Int) (h0 : 0 ≤ a) (h1 : a ≤ 1048576) (hl : l.length ≤ 140737488351232) (k : Nat) (hk : 1048577 < k) : ∃ r, laws_szObjectS.f k l a = some r ∧ (0 ≤ r → r ≤ a ∧ (l.length : Int) ≤ a ∧ ∀ x ∈ l, ((x.f0).size : Int) ≤ a ∧ ((x.f2).size : Int) ≤ a) := by
  unfold laws_szObjectS.f
  have hw : wrap64 (a - (l.length : Int)) = a - (l.length : Int) := by unfold wrap64; omega
  rw [hw]
  by_cases h : a - (l.length : Int) < 0
  · rw [if_pos h]; exact ⟨-1, rfl, fun h => by omega⟩
  · rw [if_neg h]
    obtain ⟨r, hr, hb⟩ := szObjectS_loop l (by omega) hs l.length k 0 (a - l.length) (by omega) (by omega) (by omega) (by omega) (by omega)
    refine ⟨r, hr, fun h => ?_⟩
    have hb' := hb h
    refine ⟨by omega, by omega, fun x hx => ?_⟩
    obtain ⟨j, hj, rfl⟩ := List.getElem_of_mem hx
    have := hb'.2 j hj (by omega)
    omega
theorem rdS_at (l : List ByteArray) (i : Nat) (h : i < l.length) : rdOf ByteArray.empty l (i : Int) = l[i] := by
  unfold rdOf; rw [Int.toNat_natCast, List.getD_eq_getElem?_getD, List.getElem?_eq_getElem h]; rfl
theorem eqStringS_loop (a : List ByteArray) (hl : a.length ≤ 1048576) (d : Nat) : ∀ (k i : Nat), i ≤ a.length → a.length - i = d → d < k → laws_eqStringS.l0 k a a (i : Int) = some true := by
  induction d with
  | zero =>
    intro k i hi hd hk
    obtain ⟨k, rfl⟩ : ∃ m, k = m + 1 := ⟨k - 1, by omega⟩
    simp only [laws_eqStringS.l0]
    rw [if_neg (by omega)]
  | succ d ih =>
    intro k i hi hd hk
    obtain ⟨k, rfl⟩ : ∃ m, k = m + 1 := ⟨k - 1, by omega⟩
    have hlt : i < a.length := by omega
    simp only [laws_eqStringS.l0]
    rw [if_pos (by omega), if_pos (by omega), if_pos (by omega), if_pos trivial, cast_wrap hlt (by omega), ih k (i + 1) (by omega) (by omega) (by omega)]
theorem eqStringS_same (a : List ByteArray) (hl : a.length ≤ 1048576) (k : Nat) (hk : a.length < k) : laws_eqStringS.f k a a = some true := by
  unfold laws_eqStringS.f
  rw [if_pos rfl]
  exact eqStringS_loop a hl a.length k 0 (by omega) (by omega) hk
/-- the mark of an element -/
def mkString (m : Int) : ByteArray := mt (m)
def marksString : Nat → Int → List ByteArray
  | 0, _ => []
  | d + 1, m => mkString m :: marksString d (m + 1)
theorem markStringS_loop (d : Nat) : ∀ (k i : Nat) (l : List ByteArray) (m : Int), i ≤ l.length → l.length - i = d → d + 20 < k → l.length ≤ 1048576 → 0 ≤ m → m + 1 * d ≤ 100000000000000 →
    laws_markStringS.l0 k l m (i : Int) = some (m + 1 * d, l.take i ++ marksString d m) := by
  induction d with
  | zero =>
    intro k i l m hi hd hk hl h0 hm
    obtain ⟨k, rfl⟩ : ∃ m, k = m + 1 := ⟨k - 1, by omega⟩
    obtain rfl : i = l.length := by omega
    simp only [laws_markStringS.l0]
    rw [if_neg (by omega)]
    simp [marksString]
  | succ d ih =>
    intro k i l m hi hd hk hl h0 hm
    obtain ⟨k, rfl⟩ : ∃ m, k = m + 1 := ⟨k - 1, by omega⟩
    have hlt : i < l.length := by omega
    have hc : ((d + 1 : Nat) : Int) = (d : Int) + 1 := by omega
    rw [hc] at hm
    have w1 : wrap64 (m + 1) = m + 1 := by unfold wrap64; omega
    have rs : ∀ (l : List ByteArray) (v : ByteArray), i < l.length → rdOf ByteArray.empty (l.set i v) (i : Int) = v := fun l v h => by rw [rdS_at _ _ (by simpa using h), List.getElem_set_self]
    simp only [laws_markStringS.l0, Option.bind_some, Int.toNat_natCast, mt_eq (m) (by omega) (by omega) k (by omega), w1]
    rw [if_pos (by omega), if_pos (by omega)]
    simp only [List.set_set, List.length_set, rs _ _ hlt, rdS_at l i hlt, cast_wrap hlt (by omega)]
    rw [ih k (i + 1) _ (m + 1) (by simp; omega) (by simp; omega) (by omega) (by simpa using hl) (by omega) (by omega), take_set_succ _ _ _ hlt, List.append_assoc]
    simp only [marksString, List.singleton_append, Option.some.injEq, Prod.mk.injEq]
    exact ⟨by omega, rfl⟩
theorem markStringS_eq (l : List ByteArray) (m : Int) (k : Nat) (hk : l.length + 20 < k) (hl : l.length ≤ 1048576) (h0 : 0 ≤ m) (hm : m + 1 * l.length ≤ 100000000000000) : laws_markStringS.f k l m = some (m + 1 * l.length, marksString l.length m) := by
  have := markStringS_loop l.length k 0 l m (by omega) (by omega) hk hl h0 hm
  unfold laws_markStringS.f
  refine Eq.trans this ?_
  simp
theorem marksString_length : ∀ (d : Nat) (m : Int), (marksString d m).length = d
  | 0, _ => rfl
  | d + 1, m => by simp [marksString, marksString_length d]
theorem heldStringS_loop (d : Nat) : ∀ (k : Nat) (p : List ByteArray) (m : Int), d + 20 < k → p.length + d ≤ 1048576 → 0 ≤ m → m + 1 * d ≤ 100000000000000 → laws_heldStringS.l0 k (p ++ marksString d m) m (p.length : Int) = some (m + 1 * d) := by
  induction d with
  | zero =>
    intro k p m hk hl h0 hm
    obtain ⟨k, rfl⟩ : ∃ m, k = m + 1 := ⟨k - 1, by omega⟩
    simp only [laws_heldStringS.l0, marksString, List.append_nil]
    rw [if_neg (by omega)]
    simp
  | succ d ih =>
    intro k p m hk hl h0 hm
    obtain ⟨k, rfl⟩ : ∃ m, k = m + 1 := ⟨k - 1, by omega⟩
    have hc : ((d + 1 : Nat) : Int) = (d : Int) + 1 := by omega
    rw [hc] at hm
    have hlen : (p ++ marksString (d + 1) m).length = p.length + (d + 1) := by rw [List.length_append, marksString_length]
    have hlt : p.length < (p ++ marksString (d + 1) m).length := by omega
    have hat : rdOf ByteArray.empty (p ++ marksString (d + 1) m) (p.length : Int) = mkString m := by rw [rdS_at _ _ hlt]; simp [marksString]
    have w1 : wrap64 (m + 1) = m + 1 := by unfold wrap64; omega
    have hn := ih k (p ++ [mkString m]) (m + 1) (by omega) (by simp; omega) (by omega) (by omega)
    rw [List.append_assoc, List.singleton_append, show (((p ++ [mkString m]).length : Nat) : Int) = ((p.length + 1 : Nat) : Int) from by simp] at hn
    simp only [laws_heldStringS.l0, Option.bind_some, mt_eq (m) (by omega) (by omega) k (by omega), w1, hat]
    rw [if_pos (by omega), if_pos (by omega), cast_wrap hlt (by omega)]
    simp only [mkString, ne_eq, not_true_eq_false, if_true, if_false]
    refine Eq.trans hn ?_
    rw [hc]
    exact congrArg some (by omega)
theorem heldStringS_eq (n : Nat) (m : Int) (k : Nat) (hk : n + 20 < k) (hl : n ≤ 1048576) (h0 : 0 ≤ m) (hm : m + 1 * n ≤ 100000000000000) : laws_heldStringS.f k (marksString n m) m = some (m + 1 * n) := by
  have := heldStringS_loop n k [] m hk (by simpa using hl) h0 hm
  unfold laws_heldStringS.f
  exact this
/-- a byte that a key may hold -/
def kb (b : Int) : Bool := decide ((48 ≤ b ∧ b ≤ 57) ∨ (97 ≤ b ∧ b ≤ 122) ∨ b = 47 ∨ b = 45)
theorem kspec_round (x : ByteArray) (k : Nat) (i : Int) (h0 : 0 ≤ i) (hl : i < (x.size : Int)) (hw : wrap64 (i + 1) = i + 1) :
    spec_KeyOK.l0 (k + 1) x i = if kb (bt x i) = true then spec_KeyOK.l0 k x (i + 1) else some false := by
  simp only [spec_KeyOK.l0, spec_l00Digit.f, hw]
  rw [if_pos hl, if_pos h0]
  unfold kb
  generalize bt x i = b
  by_cases a1 : b ≥ 48 <;> by_cases a2 : b ≤ 57 <;> by_cases a3 : b < 97 <;> by_cases a4 : b > 122 <;> by_cases a5 : b = 47 <;> by_cases a6 : b = 45 <;>
    first | omega | (simp [a1, a2, a3, a4, a5, a6] <;> omega)
theorem kimpl_round (x : ByteArray) (k : Nat) (i : Int) (h0 : 0 ≤ i) (hl : i < (x.size : Int)) (hw : wrap64 (i + 1) = i + 1) :
    impl_KeyOK.l0 (k + 1) x (x.size : Int) i = if kb (bt x i) = true then impl_KeyOK.l0 k x (x.size : Int) (i + 1) else some false := by
  simp only [impl_KeyOK.l0, hw]
  rw [if_pos hl, if_pos h0, if_pos hl]
  unfold kb
  generalize bt x i = b
  by_cases a1 : b < 48 <;> by_cases a2 : b > 57 <;> by_cases a3 : b < 97 <;> by_cases a4 : b > 122 <;> by_cases a5 : b = 47 <;> by_cases a6 : b = 45 <;>
    first | omega | (simp [a1, a2, a3, a4, a5, a6] <;> omega)
def kFrom (x : ByteArray) (i : Nat) : Bool := ((List.range x.size).drop i).all (fun j => kb (bt x (j : Int))) && (decide (1 ≤ (x.size : Int)) && decide ((x.size : Int) ≤ 30))
theorem kFrom_step (x : ByteArray) (i : Nat) (h : i < x.size) : kFrom x i = (kb (bt x (i : Int)) && kFrom x (i + 1)) := by
  unfold kFrom
  rw [List.drop_eq_getElem_cons (show i < (List.range x.size).length by rw [List.length_range]; exact h), List.all_cons, List.getElem_range, Bool.and_assoc]
theorem key_loops (x : ByteArray) (hn : x.size ≤ 140737488351232) (d : Nat) : ∀ (k i : Nat), i ≤ x.size → x.size - i = d → d < k →
    spec_KeyOK.l0 k x (i : Int) = some (kFrom x i) ∧ impl_KeyOK.l0 k x (x.size : Int) (i : Int) = some (kFrom x i) := by
  induction d with
  | zero =>
    intro k i h1 hd hk
    obtain ⟨k, rfl⟩ : ∃ m, k = m + 1 := ⟨k - 1, by omega⟩
    obtain rfl : i = x.size := by omega
    have e : kFrom x x.size = (decide (1 ≤ (x.size : Int)) && decide ((x.size : Int) ≤ 30)) := by
      unfold kFrom
      rw [List.drop_of_length_le (by rw [List.length_range]; exact Nat.le_refl _)]
      rfl
    simp only [spec_KeyOK.l0, impl_KeyOK.l0, in_eq, within_eq, Option.bind_some]
    rw [if_neg (by omega), e]
    exact ⟨rfl, by rw [if_neg (by omega)]⟩
  | succ d ih =>
    intro k i h1 hd hk
    obtain ⟨k, rfl⟩ : ∃ m, k = m + 1 := ⟨k - 1, by omega⟩
    have hlt : i < x.size := by omega
    have hw : wrap64 ((i : Int) + 1) = (i : Int) + 1 := by unfold wrap64; omega
    obtain ⟨h1, h2⟩ := ih k (i + 1) (by omega) (by omega) (by omega)
    have e : ((i : Int) + 1) = ((i + 1 : Nat) : Int) := by omega
    rw [kspec_round x k i (by omega) (by omega) hw, kimpl_round x k i (by omega) (by omega) hw, e, h1, h2, kFrom_step x i hlt]
    cases kb (bt x (i : Int)) <;> simp
/-- a key -/
def kOK (x : ByteArray) : Bool := kFrom x 0
theorem keyOK_eq (x : ByteArray) (hn : x.size ≤ 140737488351232) (k : Nat) (hk : x.size < k) : spec_KeyOK.f k x = some (kOK x) ∧ impl_KeyOK.f k x = some (kOK x) := by
  obtain ⟨h1, h2⟩ := key_loops x hn x.size k 0 (by omega) (by omega) hk
  unfold spec_KeyOK.f impl_KeyOK.f
  have e : ((0 : Nat) : Int) = 0 := rfl
  rw [e] at h1 h2
  refine ⟨?_, h2⟩
  by_cases h : (x.size : Int) > 65536
  · rw [if_pos h]
    have : kOK x = false := by
      unfold kOK kFrom
      rw [decide_eq_false (show ¬ (x.size : Int) ≤ 30 by omega)]
      simp
    rw [this]
  · rw [if_neg h]
    exact h1
/-- what is asked of the object at place i -/
def dupB (l : List S71) (i : Nat) (v : Int) : Bool := (l.take i).any (fun x => decide (x.f1 = v))
def ordB (l : List S71) (i : Nat) : Bool := decide (i = 0) || Op.bytesLess ((l.getD (i - 1) z71).f0).toList ((l.getD i z71).f0).toList
def objB (l : List S71) (next : Int) (i : Nat) : Bool :=
  kOK (l.getD i z71).f0 && ((decide (1 ≤ (l.getD i z71).f1) && decide ((l.getD i z71).f1 ≤ wrap64 (next - 1))) && (decide (((l.getD i z71).f2.size : Int) ≤ 600) && (ordB l i && !(dupB l i (l.getD i z71).f1))))
def objsB (l : List S71) (next : Int) (i : Nat) : Bool := ((List.range l.length).drop i).all (fun j => objB l next j)
theorem objsB_step (l : List S71) (next : Int) (i : Nat) (h : i < l.length) : objsB l next i = (objB l next i && objsB l next (i + 1)) := by
  unfold objsB
  rw [List.drop_eq_getElem_cons (show i < (List.range l.length).length by rw [List.length_range]; exact h), List.all_cons, List.getElem_range]
theorem objsB_end (l : List S71) (next : Int) : objsB l next l.length = true := by
  unfold objsB
  rw [List.drop_of_length_le (by rw [List.length_range]; exact Nat.le_refl _)]
  rfl
def storeB (l : List S71) (next : Int) : Bool := objsB l next 0 && (decide ((l.length : Int) ≤ 300) && (decide (1 ≤ next) && decide (next ≤ 1000000000)))
theorem dup_loop (l : List S71) (hl : l.length ≤ 1048576) (next v : Int) (a b : ByteArray) (i : Nat) (hi : i < l.length) (d : Nat) : ∀ (k0 j : Nat), j ≤ i → i - j = d →
    spec_StoreOK.l1 (k0 + d + 1) (i : Int) (j : Int) l next a v b = if ((l.take i).drop j).any (fun x => decide (x.f1 = v)) = true then some false else spec_StoreOK.l0 k0 ((i + 1 : Nat) : Int) l next := by
  have hw : wrap64 ((i : Int) + 1) = ((i + 1 : Nat) : Int) := by unfold wrap64; omega
  induction d with
  | zero =>
    intro k0 j hj hd
    obtain rfl : j = i := by omega
    simp only [spec_StoreOK.l1]
    rw [if_neg (by omega), hw, List.drop_of_length_le (by rw [List.length_take]; omega)]
    rfl
  | succ d ih =>
    intro k0 j hj hd
    have hlt : j < i := by omega
    have hwj : wrap64 ((j : Int) + 1) = ((j + 1 : Nat) : Int) := by unfold wrap64; omega
    have hd2 : (l.take i).drop j = l[j]'(by omega) :: (l.take i).drop (j + 1) := by
      rw [List.drop_eq_getElem_cons (show j < (l.take i).length by rw [List.length_take]; omega), List.getElem_take]
    have ihj := ih k0 (j + 1) (by omega) (by omega)
    rw [show k0 + (d + 1) + 1 = (k0 + d + 1) + 1 by omega]
    generalize k0 + d + 1 = K at ihj ⊢
    simp only [spec_StoreOK.l1]
    rw [if_pos (by omega), if_pos (by omega), if_pos (by omega), rd71_at l j (by omega), hwj, ihj, hd2, List.any_cons]
    by_cases hv : (l[j]'(by omega)).f1 = v
    · rw [if_pos hv, decide_eq_true hv]; simp
    · rw [if_neg hv, decide_eq_false hv]; simp
theorem getD_at (l : List S71) (i : Nat) (h : i < l.length) : l.getD i z71 = l[i] := by
  rw [List.getD_eq_getElem?_getD, List.getElem?_eq_getElem h]; rfl
theorem sspec_step (l : List S71) (hl : l.length ≤ 1048576) (next : Int) (i : Nat) (hi : i < l.length) (k0 : Nat) (hk : (l[i]).f0.size < k0) (hs : (l[i]).f0.size ≤ 140737488351232) :
    spec_StoreOK.l0 (k0 + i + 3) (i : Int) l next = if objB l next i = true then spec_StoreOK.l0 k0 ((i + 1 : Nat) : Int) l next else some false := by
  have hd := dup_loop l hl next (l[i]).f1 (l[i]).f0 (l[i]).f2 i hi i k0 0 (by omega) (by omega)
  rw [show k0 + i + 3 = (k0 + i + 1 + 1) + 1 by omega]
  obtain ⟨hkk, _⟩ := keyOK_eq (l[i]).f0 hs (k0 + i + 1 + 1) (by omega)
  have e0 : ((0 : Nat) : Int) = 0 := rfl
  rw [e0, List.drop_zero] at hd
  simp only [spec_StoreOK.l0]
  rw [if_pos (by omega), if_pos (by omega), rd71_at l i hi, hkk]
  simp only [Option.bind_some, in_eq, spec_StoreOK.j1]
  rw [hd]
  unfold objB dupB
  rw [getD_at l i hi]
  cases kOK (l[i]).f0 with
  | false => simp
  | true =>
    simp only [if_true, Bool.true_and]
    cases (decide (1 ≤ (l[i]).f1) && decide ((l[i]).f1 ≤ wrap64 (next - 1))) with
    | false => simp
    | true =>
      simp only [if_true, Bool.true_and]
      by_cases h6 : (((l[i]).f2).size : Int) > 600
      · rw [if_pos h6, decide_eq_false (show ¬ (((l[i]).f2).size : Int) ≤ 600 by omega)]
        simp
      · rw [if_neg h6, decide_eq_true (show (((l[i]).f2).size : Int) ≤ 600 by omega), Bool.true_and]
        rcases Nat.eq_zero_or_pos i with h0 | h0
        · subst h0
          simp [ordB]
        · have hw : wrap64 ((i : Int) - 1) = ((i - 1 : Nat) : Int) := by unfold wrap64; omega
          have hr : rd_T71 l ((i - 1 : Nat) : Int) = l.getD (i - 1) z71 := by unfold rd_T71; rw [Int.toNat_natCast]
          rw [if_pos (by omega), hw, hr]
          unfold ordB
          rw [if_pos (by omega), if_pos (by omega), decide_eq_false (show ¬ i = 0 by omega), Bool.false_or, getD_at l i hi]
          cases Op.bytesLess ((l.getD (i - 1) z71).f0).toList ((l[i]).f0).toList <;> cases (l.take i).any (fun x => decide (x.f1 = (l[i]).f1)) <;> simp
def mets (l : List S71) (i : Nat) : List Int := ((l.take i).map (fun x => x.f1)).reverse
theorem mets_has (l : List S71) (i : Nat) (v : Int) : (mets l i).contains v = dupB l i v := by
  unfold mets dupB
  rw [Bool.eq_iff_iff, List.contains_iff_mem, List.mem_reverse, List.mem_map, List.any_eq_true]
  constructor
  · rintro ⟨x, hx, e⟩; exact ⟨x, hx, by simpa using e⟩
  · rintro ⟨x, hx, e⟩; exact ⟨x, hx, by simpa using e⟩
theorem mets_next (l : List S71) (i : Nat) (h : i < l.length) : (l[i]).f1 :: mets l i = mets l (i + 1) := by
  unfold mets
  rw [List.take_succ_eq_append_getElem h, List.map_append, List.reverse_append]
  rfl
theorem simpl_step (l : List S71) (hl : l.length ≤ 300) (next : Int) (i : Nat) (hi : i < l.length) (k : Nat) (hk : (l[i]).f0.size < k) (hs : (l[i]).f0.size ≤ 140737488351232) :
    impl_StoreOK.l0 (k + 1) l (l.length : Int) (i : Int) l next (mets l i) = if objB l next i = true then impl_StoreOK.l0 k l (l.length : Int) ((i + 1 : Nat) : Int) l next (mets l (i + 1)) else some false := by
  obtain ⟨_, hkk⟩ := keyOK_eq (l[i]).f0 hs k hk
  have hwi : wrap64 ((i : Int) + 1) = ((i + 1 : Nat) : Int) := by unfold wrap64; omega
  have hm : (mets l i).length < 4096 := by unfold mets; rw [List.length_reverse, List.length_map, List.length_take]; omega
  simp only [impl_StoreOK.l0]
  rw [if_pos (by omega), if_pos (by omega), if_pos (by omega), rd71_at l i hi, hkk]
  simp only [Option.bind_some, within_eq, if_pos hm, hwi]
  rw [mets_has, mets_next l i hi]
  unfold objB
  rw [getD_at l i hi]
  cases kOK (l[i]).f0 with
  | false => simp
  | true =>
    simp only [if_true, Bool.true_and]
    cases (decide (1 ≤ (l[i]).f1) && decide ((l[i]).f1 ≤ wrap64 (next - 1))) with
    | false => simp
    | true =>
      simp only [if_true, Bool.true_and]
      by_cases h6 : (((l[i]).f2).size : Int) > 600
      · rw [if_pos h6, decide_eq_false (show ¬ (((l[i]).f2).size : Int) ≤ 600 by omega)]
        simp
      · rw [if_neg h6, decide_eq_true (show (((l[i]).f2).size : Int) ≤ 600 by omega), Bool.true_and]
        rcases Nat.eq_zero_or_pos i with h0 | h0
        · subst h0
          cases dupB l 0 (l[0]).f1 <;> simp [ordB]
        · have hw : wrap64 ((i : Int) - 1) = ((i - 1 : Nat) : Int) := by unfold wrap64; omega
          have hr : rd_T71 l ((i - 1 : Nat) : Int) = l.getD (i - 1) z71 := by unfold rd_T71; rw [Int.toNat_natCast]
          cases dupB l i (l[i]).f1 with
          | true => simp
          | false =>
            simp only [Bool.false_eq_true, if_false]
            rw [if_pos (show (i : Int) > 0 by omega), hw, hr, if_pos (by omega), if_pos (by omega)]
            unfold ordB
            rw [decide_eq_false (show ¬ i = 0 by omega), Bool.false_or, getD_at l i hi]
            cases Op.bytesLess ((l.getD (i - 1) z71).f0).toList ((l[i]).f0).toList <;> simp
theorem sspec_loop (l : List S71) (hl : l.length ≤ 1048576) (S : Nat) (hS : S ≤ 140737488351232) (hs : ∀ x ∈ l, x.f0.size ≤ S) (next : Int) (d : Nat) : ∀ (k i : Nat), i ≤ l.length → l.length - i = d → d * (l.length + 5) + S + 5 < k →
    spec_StoreOK.l0 k (i : Int) l next = some (objsB l next i && (decide ((l.length : Int) ≤ 300) && (decide (1 ≤ next) && decide (next ≤ 1000000000)))) := by
  induction d with
  | zero =>
    intro k i hi hd hk
    obtain ⟨k, rfl⟩ : ∃ m, k = m + 1 := ⟨k - 1, by omega⟩
    obtain rfl : i = l.length := by omega
    simp only [spec_StoreOK.l0, in_eq, Option.bind_some]
    rw [if_neg (by omega), objsB_end, Bool.true_and]
    by_cases h : (l.length : Int) ≤ 300
    · rw [if_pos h, decide_eq_true h, Bool.true_and]
    · rw [if_neg h, decide_eq_false h, Bool.false_and]
  | succ d ih =>
    intro k i hi hd hk
    have hlt : i < l.length := by omega
    have hm : (d + 1) * (l.length + 5) = d * (l.length + 5) + (l.length + 5) := Nat.succ_mul _ _
    have hx := hs l[i] (List.getElem_mem hlt)
    generalize d * (l.length + 5) = D at hm ih
    rw [hm] at hk
    clear hm
    obtain ⟨k0, rfl⟩ : ∃ m, k = m + i + 3 := ⟨k - i - 3, by omega⟩
    rw [sspec_step l hl next i hlt k0 (by omega) (by omega), ih k0 (i + 1) (by omega) (by omega) (by omega), objsB_step l next i hlt]
    cases objB l next i <;> simp
theorem simpl_loop (l : List S71) (hl : l.length ≤ 300) (S : Nat) (hS : S ≤ 140737488351232) (hs : ∀ x ∈ l, x.f0.size ≤ S) (next : Int) (d : Nat) : ∀ (k i : Nat), i ≤ l.length → l.length - i = d → d + S + 5 < k →
    impl_StoreOK.l0 k l (l.length : Int) (i : Int) l next (mets l i) = some (objsB l next i) := by
  induction d with
  | zero =>
    intro k i hi hd hk
    obtain ⟨k, rfl⟩ : ∃ m, k = m + 1 := ⟨k - 1, by omega⟩
    obtain rfl : i = l.length := by omega
    simp only [impl_StoreOK.l0]
    rw [if_neg (by omega), objsB_end]
  | succ d ih =>
    intro k i hi hd hk
    have hlt : i < l.length := by omega
    have hx := hs l[i] (List.getElem_mem hlt)
    obtain ⟨k, rfl⟩ : ∃ m, k = m + 1 := ⟨k - 1, by omega⟩
    rw [simpl_step l hl next i hlt k (by omega) (by omega), ih k (i + 1) (by omega) (by omega) (by omega), objsB_step l next i hlt]
    cases objB l next i <;> simp
/-- a right store: both tell the same -/
theorem store_same (l : List S71) (hl : l.length ≤ 1048576) (S : Nat) (hS : S ≤ 140737488351232) (hs : ∀ x ∈ l, x.f0.size ≤ S) (next : Int) (k : Nat) (hk : l.length * (l.length + 5) + S + 320 < k) :
    spec_StoreOK.f k l next = some (storeB l next) ∧ impl_StoreOK.f k l next = some (storeB l next) := by
  have h1 := sspec_loop l hl S hS hs next l.length k 0 (by omega) (by omega) (by omega)
  refine ⟨h1, ?_⟩
  unfold impl_StoreOK.f storeB
  obtain ⟨k, rfl⟩ : ∃ m, k = m + 1 := ⟨k - 1, by omega⟩
  simp only [within_eq, Option.bind_some, impl_StoreOK.j0]
  cases (decide (1 ≤ next) && decide (next ≤ 1000000000)) with
  | false => simp
  | true =>
    simp only [if_true, Bool.and_true]
    by_cases h : (l.length : Int) > 300
    · rw [if_pos (decide_eq_true h), decide_eq_false (show ¬ (l.length : Int) ≤ 300 by omega)]
      simp
    · have h2 := simpl_loop l (by omega) S hS hs next l.length k 0 (by omega) (by omega) (by omega)
      rw [if_neg (by simpa using h), decide_eq_true (show (l.length : Int) ≤ 300 by omega), Bool.and_true]
      exact h2
/-- whether a text begins so -/
def preB (s p : ByteArray) : Bool := if (p.size : Int) ≤ (s.size : Int) then (s.extract 0 p.size).toList == p.toList else false
theorem spre_eq (s p : ByteArray) : spec_l01Prefix.f s p = some (preB s p) := by
  unfold spec_l01Prefix.f preB
  by_cases h : (p.size : Int) ≤ (s.size : Int)
  · have h0 : (0 : Int) ≤ (p.size : Int) := by omega
    simp only [ge_iff_le, if_pos h, if_pos h0, Int.toNat_natCast]
  · simp only [ge_iff_le, if_neg h]
theorem ipre_eq (s p : ByteArray) : strings_HasPrefix.f s p = some (preB s p) := by
  unfold strings_HasPrefix.f stringslite_HasPrefix.f preB
  by_cases h : (p.size : Int) ≤ (s.size : Int)
  · have h0 : (0 : Int) ≤ (p.size : Int) := by omega
    simp only [ge_iff_le, if_pos h, if_pos h0, Int.toNat_natCast, Option.bind_some]
  · simp only [ge_iff_le, if_neg h, Option.bind_some]
/-- the keys that begin so -/
def pk (l : List S71) (p : ByteArray) : List ByteArray := (l.filter fun x => preB x.f0 p).map (·.f0)
theorem pk_len (l : List S71) (p : ByteArray) : (pk l p).length ≤ l.length := by
  unfold pk
  rw [List.length_map]
  exact List.length_filter_le _ _
theorem pk_cons (x : S71) (l : List S71) (p : ByteArray) : pk (x :: l) p = if preB x.f0 p = true then x.f0 :: pk l p else pk l p := by
  unfold pk
  rw [List.filter_cons]
  cases preB x.f0 p <;> simp
theorem rd_nat (l : List S71) (i : Nat) (h : i < l.length) : rd_T71 l (i : Int) = l[i] := by
  unfold rd_T71
  rw [Int.toNat_natCast, List.getD_eq_getElem?_getD, List.getElem?_eq_getElem h]
  rfl
theorem ikeys_loop (l : List S71) (hl : l.length ≤ 1048576) (p : ByteArray) : ∀ (d k i : Nat) (out : List ByteArray), i + d = l.length → d < k → out.length ≤ i → impl_Store_keys.l0 k p out l (l.length : Int) (i : Int) = some (out ++ pk (l.drop i) p)
  | 0, 0, _, _, _, hk, _ => by omega
  | d + 1, 0, _, _, _, hk, _ => by omega
  | 0, k + 1, i, out, hi, _, _ => by
    simp only [impl_Store_keys.l0]
    rw [if_neg (by omega), List.drop_eq_nil_of_le (by omega)]
    simp [pk]
  | d + 1, k + 1, i, out, hi, hk, ho => by
    have h : i < l.length := by omega
    have hw : wrap64 ((i : Int) + 1) = ((i + 1 : Nat) : Int) := by unfold wrap64; omega
    simp only [impl_Store_keys.l0]
    rw [if_pos (by omega), if_pos (by omega), if_pos (by omega), rd_nat l i h, ipre_eq, Option.bind_some, hw, List.drop_eq_getElem_cons h, pk_cons]
    cases hp : preB l[i].f0 p with
    | true =>
      rw [if_pos rfl, if_pos rfl, if_pos (by omega), ikeys_loop l hl p d k (i + 1) _ (by omega) (by omega) (by rw [List.length_append]; simp; omega), List.append_assoc]
      rfl
    | false =>
      rw [if_neg (by decide), if_neg (by decide), ikeys_loop l hl p d k (i + 1) _ (by omega) (by omega) (by omega)]
def gtS (a s : ByteArray) : Bool := !Op.bytesLess s.toList a.toList && !s.toList == a.toList
theorem slist_loop (l : List S71) (hl : l.length ≤ 1048576) (next : Int) (p a : ByteArray) (n : Int) : ∀ (d k i : Nat) (out : List ByteArray), i + d = l.length → 2 * d + 2 < k → out.length ≤ i → (out.length : Int) ≤ n →
    spec_l01List.l0 k p a n out (i : Int) l next = some (out ++ ((pk (l.drop i) p).filter fun s => gtS a s).take (n.toNat - out.length))
  | 0, 0, _, _, _, hk, _, _ => by omega
  | 0, 1, _, _, _, hk, _, _ => by omega
  | d + 1, 0, _, _, _, hk, _, _ => by omega
  | d + 1, 1, _, _, _, hk, _, _ => by omega
  | 0, k + 2, i, out, hi, _, _, _ => by
    simp only [spec_l01List.l0, spec_l01List.j1]
    rw [if_neg (by omega), if_neg (by decide), List.drop_eq_nil_of_le (by omega)]
    simp [pk]
  | d + 1, k + 2, i, out, hi, hk, ho, hn => by
    have h : i < l.length := by omega
    have hw : wrap64 ((i : Int) + 1) = ((i + 1 : Nat) : Int) := by unfold wrap64; omega
    simp only [spec_l01List.l0, spec_l01List.j1]
    rw [if_pos (by omega)]
    by_cases hc : (out.length : Int) < n
    · have hm : n.toNat - out.length = (n.toNat - (out.length + 1)) + 1 := by omega
      rw [if_pos (decide_eq_true hc), if_pos (by omega), if_pos (by omega), rd_nat l i h, spre_eq, Option.bind_some, hw, List.drop_eq_getElem_cons h, pk_cons]
      cases hp : preB l[i].f0 p with
      | true =>
        have hg : (!Op.bytesLess l[i].f0.toList a.toList && !l[i].f0.toList == a.toList) = gtS a l[i].f0 := rfl
        rw [if_pos rfl, if_pos rfl, List.filter_cons, hg]
        cases hb : gtS a l[i].f0 with
        | true =>
          rw [if_pos rfl, if_pos rfl, if_pos (by omega), slist_loop l hl next p a n d k (i + 1) _ (by omega) (by omega) (by rw [List.length_append]; simp; omega) (by rw [List.length_append]; simp; omega), hm, List.take_succ_cons, List.append_assoc, List.length_append]
          rfl
        | false =>
          rw [if_neg (by decide), if_neg (by decide), slist_loop l hl next p a n d k (i + 1) _ (by omega) (by omega) (by omega) (by omega)]
      | false =>
        rw [if_neg (by decide), if_neg (by decide), slist_loop l hl next p a n d k (i + 1) _ (by omega) (by omega) (by omega) (by omega)]
    · have hm : n.toNat - out.length = 0 := by omega
      rw [if_neg (by simpa using hc), hm]
      simp
/-- what ListKeys answers -/
def listR (l : List S71) (next : Int) (p a : ByteArray) (n : Int) : List ByteArray × Int :=
  if (p.size : Int) > 65536 ∨ (a.size : Int) > 65536 then ([], 2) else if storeB l next = true then (if 0 ≤ n ∧ n ≤ 300 then (((pk l p).filter fun s => gtS a s).take n.toNat, 0) else ([], 4)) else ([], 1)
theorem listR_len (l : List S71) (next : Int) (p a : ByteArray) (n : Int) : (listR l next p a n).1.length ≤ l.length := by
  unfold listR
  split
  · simp
  · split
    · split
      · show (List.take _ _).length ≤ _
        rw [List.length_take]
        have h1 := List.length_filter_le (fun s : ByteArray => gtS a s) (pk l p)
        have h2 := pk_len l p
        omega
      · simp
    · simp
theorem slist_same (l : List S71) (hl : l.length ≤ 1048576) (hs : ∀ x ∈ l, x.f0.size ≤ 140737488351232) (next : Int) (p a : ByteArray) (n : Int) (k : Nat) (hk : l.length * (l.length + 5) + 140737488351232 + 3000000 < k) :
    spec_ListKeys.f k l next p a n = some (listR l next p a n) := by
  obtain ⟨m, rfl⟩ : ∃ m, k = m + 1 := ⟨k - 1, by omega⟩
  obtain ⟨h1, _⟩ := store_same l hl 140737488351232 (by omega) hs next m (by omega)
  unfold spec_ListKeys.f listR
  by_cases c1 : (p.size : Int) > 65536
  · rw [if_pos c1, if_pos (Or.inl c1)]
    simp only [spec_ListKeys.j0, if_true]
  · rw [if_neg c1]
    by_cases c2 : (a.size : Int) > 65536
    · rw [if_pos (Or.inr c2), decide_eq_true c2]
      simp only [spec_ListKeys.j0, if_true]
    · rw [if_neg (by rintro (h | h); exact c1 h; exact c2 h), decide_eq_false c2]
      simp only [spec_ListKeys.j0, Bool.false_eq_true, if_false, h1, Option.bind_some, in_eq]
      cases hst : storeB l next with
      | false => simp
      | true =>
        rw [if_pos rfl, if_pos rfl]
        by_cases h3 : 0 ≤ n ∧ n ≤ 300
        · rw [if_pos h3, if_pos (by rw [decide_eq_true h3.1, decide_eq_true h3.2]; rfl)]
          unfold spec_l01List.f
          have := slist_loop l hl next p a n l.length m 0 [] (by omega) (by omega) (by simp) (by simpa using h3.1)
          rw [show ((0 : Nat) : Int) = 0 from rfl] at this
          rw [this, Option.bind_some, List.nil_append, List.drop_zero, List.length_nil, Nat.sub_zero]
        · rw [if_neg h3, if_neg (by
            intro h
            rw [Bool.and_eq_true, decide_eq_true_eq, decide_eq_true_eq] at h
            exact h3 h)]
theorem ilist_same (l : List S71) (hl : l.length ≤ 1048576) (hs : ∀ x ∈ l, x.f0.size ≤ 140737488351232) (next : Int) (p a : ByteArray) (n : Int) (k : Nat) (hk : l.length * (l.length + 5) + 140737488351232 + 3000000 < k) :
    impl_ListKeys.f k l next p a n = some (listR l next p a n) := by
  obtain ⟨_, h2⟩ := store_same l hl 140737488351232 (by omega) hs next k (by omega)
  have f3 : ∀ b1 b2 b3 c1 c2 c3, impl_first.f k [anyB b1, anyI c1, anyB b2, anyI c2, anyB b3, anyI c3] = some (if b1 = true then c1 else if b2 = true then c2 else if b3 = true then c3 else 0) := by
    obtain ⟨m, rfl⟩ : ∃ m, k = m + 4 := ⟨k - 4, by omega⟩
    exact first3 m
  have hke : impl_Store_keys.f k l next p = some (pk l p) := by
    unfold impl_Store_keys.f
    have := ikeys_loop l hl p l.length k 0 [] (by omega) (by omega) (by simp)
    rw [show ((0 : Nat) : Int) = 0 from rfl] at this
    rw [this, List.nil_append, List.drop_zero]
  have hlo : impl_isLong.f [p, a] = some (decide ((p.size : Int) > 65536 ∨ (a.size : Int) > 65536)) := by
    unfold impl_isLong.f shortB
    congr 1
    rw [List.any_cons, List.any_cons, List.any_nil, Bool.or_false]
    by_cases c1 : (p.size : Int) ≤ 65536 <;> by_cases c2 : (a.size : Int) ≤ 65536 <;> simp [c1, c2] <;> omega
  have hde : slices_DeleteFunc_string_string.f (pk l p) a = some ((pk l p).filter fun s => gtS a s) := by
    unfold slices_DeleteFunc_string_string.f
    rw [if_pos (by have := pk_len l p; omega)]
    have : (fun x : ByteArray => !(leS a x)) = gtS a := by
      funext s
      unfold leS gtS
      rw [Bool.not_or]
    rw [this]
  have hfl : ((pk l p).filter fun s => gtS a s).length ≤ 1048576 := by
    have h1 := List.length_filter_le (fun s : ByteArray => gtS a s) (pk l p)
    have h2 := pk_len l p
    omega
  unfold impl_ListKeys.f listR
  simp only [hlo, h2, within_eq, f3, hke, hde, Option.bind_some]
  generalize ((pk l p).filter fun s => gtS a s) = F at hfl
  by_cases c0 : (p.size : Int) > 65536 ∨ (a.size : Int) > 65536
  · rw [decide_eq_true c0]
    simp only [if_true]
    rw [if_neg (show ¬ ((2 : Int) = 0) by decide), if_pos c0]
  · rw [decide_eq_false c0]
    simp only [Bool.false_eq_true, if_false]
    rw [if_neg c0]
    cases hst : storeB l next with
    | false => simp
    | true =>
      simp only [Bool.not_true, Bool.false_eq_true, if_false, if_true]
      by_cases h3 : 0 ≤ n ∧ n ≤ 300
      · have hm0 : 0 ≤ mn n (F.length : Int) := by unfold mn; split <;> omega
        have hm1 : mn n (F.length : Int) ≤ (F.length : Int) := by unfold mn; split <;> omega
        have ht : F.take (mn n (F.length : Int)).toNat = F.take n.toNat := by
          unfold mn
          split
          · rw [Int.toNat_natCast, List.take_length, List.take_of_length_le (by omega)]
          · rfl
        have hb : (decide (0 ≤ n) && decide (n ≤ 300)) = true := by rw [decide_eq_true h3.1, decide_eq_true h3.2]; rfl
        rw [hb]
        simp only [Bool.not_true, Bool.false_eq_true, if_false, if_true]
        rw [if_pos h3, if_pos hm0, if_pos hm1]
        unfold slices_Clone_string_string.f
        rw [Option.bind_some, if_pos (by rw [List.length_take]; simp; omega), Option.bind_some, List.nil_append, ht]
      · have hb : (decide (0 ≤ n) && decide (n ≤ 300)) = false := by
          rw [Bool.eq_false_iff]
          intro h
          rw [Bool.and_eq_true, decide_eq_true_eq, decide_eq_true_eq] at h
          exact h3 h
        rw [hb]
        simp only [Bool.not_false, if_true]
        rw [if_neg (show ¬ ((4 : Int) = 0) by decide), if_neg h3]
theorem FnExactListKeys : laws_FnExactListKeys.Pure := by
  intro l next p a n ⟨_, hl, sl⟩ _ _ _ _
  obtain ⟨D, hD⟩ : ∃ D, D = l.length * (l.length + 5) := ⟨_, rfl⟩
  obtain ⟨K, hK⟩ : ∃ K : Nat, K = D + 140737500000000 := ⟨_, rfl⟩
  refine ⟨K + 3, ?_⟩
  obtain ⟨r1, s1, b1⟩ := szObjectS_tot l (fun x hx => ⟨(sl x hx).1, (sl x hx).2.2⟩) 1048576 (by omega) (by omega) (by omega) (K + 3) (by omega)
  unfold laws_FnExactListKeys.f laws_szStore.f
  by_cases cp : (p.size : Int) > 1048576
  · rw [if_pos cp]
  rw [if_neg cp]
  by_cases cq : (a.size : Int) > 1048576
  · rw [if_pos cq]
  rw [if_neg cq, s1]
  simp only [Option.bind_some]
  by_cases ca : r1 < 0
  · simp [ca]
  have b1 := b1 (by omega)
  have la : (l.map cvObject).length = l.length := by simp
  have hsz : ∀ x ∈ l.map cvObject, x.f0.size ≤ 1048576 := fun x hx => by
    obtain ⟨y, hy, rfl⟩ := List.mem_map.1 hx
    have := (b1.2.2 y hy).1
    show y.f0.size ≤ 1048576
    omega
  have hs : ∀ x ∈ l.map cvObject, x.f0.size ≤ 140737488351232 := fun x hx => by
    obtain ⟨y, hy, rfl⟩ := List.mem_map.1 hx
    exact (sl y hy).1
  have key1 := fun k hk => slist_same (l.map cvObject) (by omega) hs next p a n k hk
  have key2 := fun k hk => ilist_same (l.map cvObject) (by omega) hs next p a n k hk
  have hrl := listR_len (l.map cvObject) next p a n
  rw [la, ← hD] at key1 key2
  rw [la] at hrl
  generalize listR (l.map cvObject) next p a n = R at key1 key2 hrl
  obtain ⟨r, c⟩ := R
  replace hrl : r.length ≤ l.length := hrl
  have h1 := key1 (K + 3) (by omega)
  have h2 := key2 (K + 3) (by omega)
  have h4 := key2 (K + 1) (by omega)
  have h3 : r.length ≤ 1048576 := by omega
  simp only [ca, if_false, Option.bind_some, laws_toStore.f, toObjectS_eq l (by omega) (K + 3) (by omega), h1, h2]
  rw [eqStringS_same r h3 (K + 3) (by omega)]
  simp only [Option.bind_some, if_true, bne_self_eq_false]
  simp only [laws_FnExactListKeys.j0, Bool.false_eq_true, if_false, laws_toStore.f, toObjectS_eq l (by omega) (K + 2) (by omega), Option.bind_some, laws_eqStore.f, eqObjectS_same (l.map cvObject) (by omega) (K + 2) (by omega), if_true, laws_markStore.f, markObjectS_eq (l.map cvObject) 1 (K + 2) (by omega) (by omega) (by omega) (by omega)]
  rw [if_neg (by omega), eqStringS_same r h3 (K + 2) (by omega)]
  simp only [Option.bind_some, if_true, bne_self_eq_false]
  simp only [laws_FnExactListKeys.j1, Bool.false_eq_true, if_false]
  rw [markStringS_eq r 1 (K + 1) (by omega) (by omega) (by omega) (by omega)]
  simp only [Option.bind_some]
  rw [heldStringS_eq r.length 1 (K + 1) (by omega) (by omega) (by omega) (by omega)]
  simp only [Option.bind_some]
  rw [if_neg (by omega), if_pos trivial]
  simp only [laws_toStore.f]
  rw [toObjectS_eq l (by omega) (K + 1) (by omega)]
  simp only [Option.bind_some]
  rw [h4]
  simp only [Option.bind_some]
  rw [eqStringS_same r h3 (K + 1) (by omega)]
  simp only [Option.bind_some, if_true, bne_self_eq_false, laws_FnExactListKeys.j2, Bool.false_eq_true, if_false]
  rw [heldStringS_eq r.length 1 K (by omega) (by omega) (by omega) (by omega)]
  simp only [Option.bind_some]
  rw [if_neg (by omega)]
  first | rw [if_pos rfl] | rw [if_pos trivial]

end Go.Proofs.Ytbodkbaniebfaaa.Pure
