/- The pure law of FnExactDataKeys: what the printed functions compute answers true for every input of the kinds and sizes that the statement gives. -/
import Derived.Test.YtleifhnoaaphmaaDoorKinFnExactDataKeys
import Derived.Lib.AtoiAllCases
import Derived.Lib.ItoaLen
import Derived.Lib.SplitLaws
import Derived.Lib.AtoiAllCases
import Derived.Lib.ItoaLen
import Derived.Lib.SplitLaws
import Derived.Lib.AtoiAllCases
import Derived.Lib.ItoaLen
import Derived.Lib.SplitLaws
namespace Go.Proofs.YtleifhnoaaphmaaDoor.Pure
open Go.RowKit Go.Proofs.YtleifhnoaaphmaaDoorW.PrintWords Go.Proofs.YtleifhnoaaphmaaDoorW.PrintLast Go.Proofs.YtleifhnoaaphmaaDoor.XFnExactDataKeys
set_option linter.unusedSimpArgs false
set_option linter.unusedVariables false

-- BODY
theorem within_eq (a b c : Int) : impl_within.f a b c = some (decide (b ≤ a) && decide (a ≤ c)) := by
  unfold impl_within.f; by_cases h : b ≤ a <;> simp [h]
theorem in_eq (a b c : Int) : spec_l01In.f a b c = some (decide (b ≤ a) && decide (a ≤ c)) := by
  unfold spec_l01In.f; by_cases h : b ≤ a <;> simp [h]
/-- list places, as the printed loops spell them -/
theorem cast_wrap {i n : Nat} (h : i < n) (hn : n ≤ 140737488351232) : wrap64 ((i : Int) + 1) = ((i + 1 : Nat) : Int) := by unfold wrap64; omega
theorem take_set_succ {α : Type} (l : List α) (i : Nat) (v : α) (h : i < l.length) : (l.set i v).take (i + 1) = l.take i ++ [v] := by
  rw [List.take_succ_eq_append_getElem (by simpa using h)]
  simp only [List.take_set, List.getElem_set_self]
  rw [List.set_eq_of_length_le (by simp; omega)]
theorem strOf_one (c : Int) : (strOfNums [c]).size = 1 := by rfl
theorem markText_loop (d : Nat) : ∀ (k : Nat) (x : Int) (s : ByteArray), 0 ≤ x → x ≤ 9223372036854775807 → x < 10 ^ d → d < k → s.size + d ≤ 100 → ∃ r, laws_markText.l0 k x s = some r := by
  induction d with
  | zero =>
    intro k x s h0 h2 h1 hk hs
    obtain ⟨k, rfl⟩ : ∃ m, k = m + 1 := ⟨k - 1, by omega⟩
    simp only [laws_markText.l0]
    rw [if_neg (by omega), if_pos (by omega)]
    exact ⟨_, rfl⟩
  | succ d ih =>
    intro k x s h0 h2 h1 hk hs
    obtain ⟨k, rfl⟩ : ∃ m, k = m + 1 := ⟨k - 1, by omega⟩
    simp only [laws_markText.l0, Option.bind_some]
    by_cases hx : x > 0
    · rw [if_pos hx, strOf_one, if_pos (by omega)]
      have hp : (10 : Int) ^ (d + 1) = 10 ^ d * 10 := Int.pow_succ 10 d
      rw [hp] at h1
      generalize (10 : Int) ^ d = q at *
      have hd : Int.tdiv x 10 = x / 10 := Int.tdiv_eq_ediv_of_nonneg h0
      have hw : wrap64 (Int.tdiv x 10) = x / 10 := by
        rw [hd]
        unfold wrap64
        omega
      rw [hw]
      refine ih k _ _ (by omega) (by omega) (by omega) (by omega) ?_
      rw [ByteArray.size_append, strOf_one]
      omega
    · rw [if_neg hx, if_pos (by omega)]
      exact ⟨_, rfl⟩
/-- the mark of place m -/
def mt (m : Int) : ByteArray := (laws_markText.f 20 m).getD ⟨#[]⟩
theorem mt_eq (m : Int) (h0 : 0 ≤ m) (h1 : m < 1000000000000000) (k : Nat) (hk : 20 ≤ k) : laws_markText.f k m = some (mt m) := by
  have h20 : laws_markText.f 20 m = some (mt m) := by
    have : ∃ r, laws_markText.f 20 m = some r := by
      unfold laws_markText.f
      by_cases hm : m ≤ 0
      · rw [if_pos hm]; exact ⟨_, rfl⟩
      · rw [if_neg hm]
        exact markText_loop 15 20 m _ (by omega) (by omega) (by rw [show (10 : Int) ^ 15 = 1000000000000000 by decide]; exact h1) (by omega) (by decide)
    obtain ⟨r, hr⟩ := this
    unfold mt
    rw [hr]
    rfl
  obtain ⟨d, rfl⟩ : ∃ d, k = 20 + d := ⟨k - 20, by omega⟩
  clear hk
  induction d with
  | zero => exact h20
  | succ d ih => exact laws_markText.mono m (20 + d) _ ih
theorem rd111_at (l : List S111) (i : Nat) (h : i < l.length) : rd_T111 l (i : Int) = l[i] := by
  unfold rd_T111; rw [Int.toNat_natCast, List.getD_eq_getElem?_getD, List.getElem?_eq_getElem h]; rfl
theorem rd110_at (l : List S110) (i : Nat) (h : i < l.length) : rd_T110 l (i : Int) = l[i] := by
  unfold rd_T110; rw [Int.toNat_natCast, List.getD_eq_getElem?_getD, List.getElem?_eq_getElem h]; rfl
def cvObject (x : S110) : S111 := ⟨x.f0, x.f1, x.f2⟩
theorem toObjectS_loop (l : List S110) (hl : l.length ≤ 1048576) (d : Nat) : ∀ (k i : Nat) (x : List S111), x.length = l.length → i ≤ l.length → l.length - i = d → d < k →
    laws_toObjectS.l0 k l x (i : Int) = some (x.take i ++ (l.drop i).map cvObject) := by
  induction d with
  | zero =>
    intro k i x hx hi hd hk
    obtain ⟨k, rfl⟩ : ∃ m, k = m + 1 := ⟨k - 1, by omega⟩
    obtain rfl : i = l.length := by omega
    simp only [laws_toObjectS.l0]
    rw [if_neg (by omega), List.drop_length, List.map_nil, List.append_nil, ← hx, List.take_length]
  | succ d ih =>
    intro k i x hx hi hd hk
    obtain ⟨k, rfl⟩ : ∃ m, k = m + 1 := ⟨k - 1, by omega⟩
    have hlt : i < l.length := by omega
    simp only [laws_toObjectS.l0, laws_toObject.f, Option.bind_some]
    rw [if_pos (by omega), if_pos (by omega), if_pos (by omega), rd110_at l i hlt, cast_wrap hlt (by omega), ih k (i + 1) _ (by simpa using hx) (by omega) (by omega) (by omega), Int.toNat_natCast, take_set_succ _ _ _ (by omega),
      List.drop_eq_getElem_cons hlt, List.map_cons, List.append_assoc]
    rfl
theorem toObjectS_eq (l : List S110) (hl : l.length ≤ 1048576) (k : Nat) (hk : l.length < k) : laws_toObjectS.f k l = some (l.map cvObject) := by
  unfold laws_toObjectS.f
  rw [if_pos (by omega), if_pos (by omega)]
  have := toObjectS_loop l hl l.length k 0 (List.replicate ((l.length : Int)).toNat z111) (by simp) (by omega) (by omega) hk
  refine Eq.trans this ?_
  simp
theorem eqObject_same (x0 : ByteArray) (x1 : Int) (x2 : ByteArray) : laws_eqObject.f x0 x1 x2 x0 x1 x2 = some true := by simp [laws_eqObject.f]
theorem eqObjectS_loop (a : List S111) (hl : a.length ≤ 1048576) (d : Nat) : ∀ (k i : Nat), i ≤ a.length → a.length - i = d → d < k → laws_eqObjectS.l0 k a a (i : Int) = some true := by
  induction d with
  | zero =>
    intro k i hi hd hk
    obtain ⟨k, rfl⟩ : ∃ m, k = m + 1 := ⟨k - 1, by omega⟩
    simp only [laws_eqObjectS.l0]
    rw [if_neg (by omega)]
  | succ d ih =>
    intro k i hi hd hk
    obtain ⟨k, rfl⟩ : ∃ m, k = m + 1 := ⟨k - 1, by omega⟩
    have hlt : i < a.length := by omega
    simp only [laws_eqObjectS.l0]
    rw [if_pos (by omega), if_pos (by omega), if_pos (by omega), eqObject_same, cast_wrap hlt (by omega), ih k (i + 1) (by omega) (by omega) (by omega)]
    simp
theorem eqObjectS_same (a : List S111) (hl : a.length ≤ 1048576) (k : Nat) (hk : a.length < k) : laws_eqObjectS.f k a a = some true := by
  unfold laws_eqObjectS.f
  rw [if_pos rfl]
  exact eqObjectS_loop a hl a.length k 0 (by omega) (by omega) hk
/-- the mark of an element -/
def mkObject (m : Int) : S111 := ⟨mt (m), m + 1, mt (m + 1 + 1)⟩
def marksObject : Nat → Int → List S111
  | 0, _ => []
  | d + 1, m => mkObject m :: marksObject d (m + 1 + 1 + 1)
theorem markObjectS_loop (d : Nat) : ∀ (k i : Nat) (l : List S111) (m : Int), i ≤ l.length → l.length - i = d → d + 20 < k → l.length ≤ 1048576 → 0 ≤ m → m + 3 * d ≤ 100000000000000 →
    laws_markObjectS.l0 k l m (i : Int) = some (m + 3 * d, l.take i ++ marksObject d m) := by
  induction d with
  | zero =>
    intro k i l m hi hd hk hl h0 hm
    obtain ⟨k, rfl⟩ : ∃ m, k = m + 1 := ⟨k - 1, by omega⟩
    obtain rfl : i = l.length := by omega
    simp only [laws_markObjectS.l0]
    rw [if_neg (by omega)]
    simp [marksObject]
  | succ d ih =>
    intro k i l m hi hd hk hl h0 hm
    obtain ⟨k, rfl⟩ : ∃ m, k = m + 1 := ⟨k - 1, by omega⟩
    have hlt : i < l.length := by omega
    have hc : ((d + 1 : Nat) : Int) = (d : Int) + 1 := by omega
    rw [hc] at hm
    have w1 : wrap64 (m + 1) = m + 1 := by unfold wrap64; omega
    have w2 : wrap64 (m + 1 + 1) = m + 1 + 1 := by unfold wrap64; omega
    have w3 : wrap64 (m + 1 + 1 + 1) = m + 1 + 1 + 1 := by unfold wrap64; omega
    have rs : ∀ (l : List S111) (v : S111), i < l.length → rd_T111 (l.set i v) (i : Int) = v := fun l v h => by rw [rd111_at _ _ (by simpa using h), List.getElem_set_self]
    simp only [laws_markObjectS.l0, Option.bind_some, Int.toNat_natCast, mt_eq (m) (by omega) (by omega) k (by omega), mt_eq (m + 1 + 1) (by omega) (by omega) k (by omega), w1, w2, w3]
    rw [if_pos (by omega), if_pos (by omega)]
    simp only [List.set_set, List.length_set, rs _ _ hlt, rd111_at l i hlt, cast_wrap hlt (by omega)]
    rw [ih k (i + 1) _ (m + 1 + 1 + 1) (by simp; omega) (by simp; omega) (by omega) (by simpa using hl) (by omega) (by omega), take_set_succ _ _ _ hlt, List.append_assoc]
    simp only [marksObject, List.singleton_append, Option.some.injEq, Prod.mk.injEq]
    exact ⟨by omega, rfl⟩
theorem markObjectS_eq (l : List S111) (m : Int) (k : Nat) (hk : l.length + 20 < k) (hl : l.length ≤ 1048576) (h0 : 0 ≤ m) (hm : m + 3 * l.length ≤ 100000000000000) : laws_markObjectS.f k l m = some (m + 3 * l.length, marksObject l.length m) := by
  have := markObjectS_loop l.length k 0 l m (by omega) (by omega) hk hl h0 hm
  unfold laws_markObjectS.f
  refine Eq.trans this ?_
  simp
theorem marksObject_length : ∀ (d : Nat) (m : Int), (marksObject d m).length = d
  | 0, _ => rfl
  | d + 1, m => by simp [marksObject, marksObject_length d]
theorem szObject_tot (x0 : ByteArray) (x1 : Int) (x2 : ByteArray) (a : Int) (h0 : 0 ≤ a) (h1 : a ≤ 1048576) (hs0 : x0.size ≤ 140737488351232) (hs1 : x2.size ≤ 140737488351232) : ∃ r, laws_szObject.f x0 x1 x2 a = some r ∧ (0 ≤ r → r ≤ a ∧ (x0.size : Int) ≤ a ∧ (x2.size : Int) ≤ a) := by
  unfold laws_szObject.f
  have w0 : wrap64 (a - (x0.size : Int)) = a - (x0.size : Int) := by unfold wrap64; omega
  have w1 : wrap64 (a - (x0.size : Int) - (x2.size : Int)) = a - (x0.size : Int) - (x2.size : Int) := by unfold wrap64; omega
  simp only [w0, w1]
  by_cases c0 : a - (x0.size : Int) < 0
  · rw [if_pos c0]; exact ⟨-1, rfl, fun h => by omega⟩
  rw [if_neg c0]
  by_cases c1 : a - (x0.size : Int) - (x2.size : Int) < 0
  · rw [if_pos c1]; exact ⟨-1, rfl, fun h => by omega⟩
  rw [if_neg c1]
  exact ⟨_, rfl, fun _ => by omega⟩
theorem szObjectS_loop (l : List S110) (hl : l.length ≤ 1048576) (hs : ∀ x ∈ l, x.f0.size ≤ 140737488351232 ∧ x.f2.size ≤ 140737488351232) (d : Nat) : ∀ (k i : Nat) (a : Int), i ≤ l.length → l.length - i = d → d < k → 0 ≤ a → a ≤ 1048576 → ∃ r, laws_szObjectS.l0 k l a (i : Int) = some r ∧ (0 ≤ r → r ≤ a ∧ ∀ j (h : j < l.length), i ≤ j → ((l[j].f0).size : Int) ≤ a ∧ ((l[j].f2).size : Int) ≤ a) := by
  induction d with
  | zero =>
    intro k i a hi hd hk h0 h1
    obtain ⟨k, rfl⟩ : ∃ m, k = m + 1 := ⟨k - 1, by omega⟩
    simp only [laws_szObjectS.l0]
    rw [if_neg (by omega)]
    exact ⟨a, rfl, fun _ => ⟨Int.le_refl _, fun j h hj => by omega⟩⟩
  | succ d ih =>
    intro k i a hi hd hk h0 h1
    obtain ⟨k, rfl⟩ : ∃ m, k = m + 1 := ⟨k - 1, by omega⟩
    have hlt : i < l.length := by omega
    have hsi := hs l[i] (List.getElem_mem hlt)
    obtain ⟨r, hr, hb⟩ := szObject_tot l[i].f0 l[i].f1 l[i].f2 a h0 h1 hsi.1 hsi.2
    simp only [laws_szObjectS.l0]
    rw [if_pos (by omega), if_pos (by omega), rd110_at l i hlt, hr]
    simp only [Option.bind_some]
    by_cases hn : r < 0
    · rw [if_pos hn]; exact ⟨-1, rfl, fun h => by omega⟩
    · rw [if_neg hn, cast_wrap hlt (by omega)]
      have hb' := hb (by omega)
      obtain ⟨q, hq, hqb⟩ := ih k (i + 1) r (by omega) (by omega) (by omega) (by omega) (by omega)
      refine ⟨q, hq, fun h => ⟨by have := hqb h; omega, fun j hj hij => ?_⟩⟩
      have hqb' := hqb h
      by_cases e : j = i
      · subst e; omega
      · have := hqb'.2 j hj (by omega)
        omega
theorem szObjectS_tot (l : List S110) (hs : ∀ x ∈ l, x.f0.size ≤ 140737488351232 ∧ x.f2.size ≤ 140737488351232) (a : Int) (h0 : 0 ≤ a) (h1 : a ≤ 1048576) (hl : l.length ≤ 140737488351232) (k : Nat) (hk : 1048577 < k) : ∃ r, laws_szObjectS.f k l a = some r ∧ (0 ≤ r → r ≤ a ∧ (l.length : Int) ≤ a ∧ ∀ x ∈ l, ((x.f0).size : Int) ≤ a ∧ ((x.f2).size : Int) ≤ a) := by
  unfold laws_szObjectS.f
  have hw : wrap64 (a - (l.length : Int)) = a - (l.length : Int) := by unfold wrap64; omega
  rw [hw]
  by_cases h : a - (l.length : Int) < 0
  · rw [if_pos h]; exact ⟨-1, rfl, fun h => by omega⟩
  · rw [if_neg h]
    obtain ⟨r, hr, hb⟩ := szObjectS_loop l (by omega) hs l.length k 0 (a - l.length) (by omega) (by omega) (by omega) (by omega) (by omega)
    refine ⟨r, hr, fun h => ?_⟩
    have hb' := hb h
    refine ⟨by omega, by omega, fun x hx => ?_⟩
    obtain ⟨j, hj, rfl⟩ := List.getElem_of_mem hx
    have := hb'.2 j hj (by omega)
    omega
theorem rdS_at (l : List ByteArray) (i : Nat) (h : i < l.length) : rdOf ByteArray.empty l (i : Int) = l[i] := by
  unfold rdOf; rw [Int.toNat_natCast, List.getD_eq_getElem?_getD, List.getElem?_eq_getElem h]; rfl
theorem eqStringS_loop (a : List ByteArray) (hl : a.length ≤ 1048576) (d : Nat) : ∀ (k i : Nat), i ≤ a.length → a.length - i = d → d < k → laws_eqStringS.l0 k a a (i : Int) = some true := by
  induction d with
  | zero =>
    intro k i hi hd hk
    obtain ⟨k, rfl⟩ : ∃ m, k = m + 1 := ⟨k - 1, by omega⟩
    simp only [laws_eqStringS.l0]
    rw [if_neg (by omega)]
  | succ d ih =>
    intro k i hi hd hk
    obtain ⟨k, rfl⟩ : ∃ m, k = m + 1 := ⟨k - 1, by omega⟩
    have hlt : i < a.length := by omega
    simp only [laws_eqStringS.l0]
    rw [if_pos (by omega), if_pos (by omega), if_pos (by omega), if_pos trivial, cast_wrap hlt (by omega), ih k (i + 1) (by omega) (by omega) (by omega)]
theorem eqStringS_same (a : List ByteArray) (hl : a.length ≤ 1048576) (k : Nat) (hk : a.length < k) : laws_eqStringS.f k a a = some true := by
  unfold laws_eqStringS.f
  rw [if_pos rfl]
  exact eqStringS_loop a hl a.length k 0 (by omega) (by omega) hk
/-- the mark of an element -/
def mkString (m : Int) : ByteArray := mt (m)
def marksString : Nat → Int → List ByteArray
  | 0, _ => []
  | d + 1, m => mkString m :: marksString d (m + 1)
theorem markStringS_loop (d : Nat) : ∀ (k i : Nat) (l : List ByteArray) (m : Int), i ≤ l.length → l.length - i = d → d + 20 < k → l.length ≤ 1048576 → 0 ≤ m → m + 1 * d ≤ 100000000000000 →
    laws_markStringS.l0 k l m (i : Int) = some (m + 1 * d, l.take i ++ marksString d m) := by
  induction d with
  | zero =>
    intro k i l m hi hd hk hl h0 hm
    obtain ⟨k, rfl⟩ : ∃ m, k = m + 1 := ⟨k - 1, by omega⟩
    obtain rfl : i = l.length := by omega
    simp only [laws_markStringS.l0]
    rw [if_neg (by omega)]
    simp [marksString]
  | succ d ih =>
    intro k i l m hi hd hk hl h0 hm
    obtain ⟨k, rfl⟩ : ∃ m, k = m + 1 := ⟨k - 1, by omega⟩
    have hlt : i < l.length := by omega
    have hc : ((d + 1 : Nat) : Int) = (d : Int) + 1 := by omega
    rw [hc] at hm
    have w1 : wrap64 (m + 1) = m + 1 := by unfold wrap64; omega
    have rs : ∀ (l : List ByteArray) (v : ByteArray), i < l.length → rdOf ByteArray.empty (l.set i v) (i : Int) = v := fun l v h => by rw [rdS_at _ _ (by simpa using h), List.getElem_set_self]
    simp only [laws_markStringS.l0, Option.bind_some, Int.toNat_natCast, mt_eq (m) (by omega) (by omega) k (by omega), w1]
    rw [if_pos (by omega), if_pos (by omega)]
    simp only [List.set_set, List.length_set, rs _ _ hlt, rdS_at l i hlt, cast_wrap hlt (by omega)]
    rw [ih k (i + 1) _ (m + 1) (by simp; omega) (by simp; omega) (by omega) (by simpa using hl) (by omega) (by omega), take_set_succ _ _ _ hlt, List.append_assoc]
    simp only [marksString, List.singleton_append, Option.some.injEq, Prod.mk.injEq]
    exact ⟨by omega, rfl⟩
theorem markStringS_eq (l : List ByteArray) (m : Int) (k : Nat) (hk : l.length + 20 < k) (hl : l.length ≤ 1048576) (h0 : 0 ≤ m) (hm : m + 1 * l.length ≤ 100000000000000) : laws_markStringS.f k l m = some (m + 1 * l.length, marksString l.length m) := by
  have := markStringS_loop l.length k 0 l m (by omega) (by omega) hk hl h0 hm
  unfold laws_markStringS.f
  refine Eq.trans this ?_
  simp
theorem marksString_length : ∀ (d : Nat) (m : Int), (marksString d m).length = d
  | 0, _ => rfl
  | d + 1, m => by simp [marksString, marksString_length d]
theorem heldStringS_loop (d : Nat) : ∀ (k : Nat) (p : List ByteArray) (m : Int), d + 20 < k → p.length + d ≤ 1048576 → 0 ≤ m → m + 1 * d ≤ 100000000000000 → laws_heldStringS.l0 k (p ++ marksString d m) m (p.length : Int) = some (m + 1 * d) := by
  induction d with
  | zero =>
    intro k p m hk hl h0 hm
    obtain ⟨k, rfl⟩ : ∃ m, k = m + 1 := ⟨k - 1, by omega⟩
    simp only [laws_heldStringS.l0, marksString, List.append_nil]
    rw [if_neg (by omega)]
    simp
  | succ d ih =>
    intro k p m hk hl h0 hm
    obtain ⟨k, rfl⟩ : ∃ m, k = m + 1 := ⟨k - 1, by omega⟩
    have hc : ((d + 1 : Nat) : Int) = (d : Int) + 1 := by omega
    rw [hc] at hm
    have hlen : (p ++ marksString (d + 1) m).length = p.length + (d + 1) := by rw [List.length_append, marksString_length]
    have hlt : p.length < (p ++ marksString (d + 1) m).length := by omega
    have hat : rdOf ByteArray.empty (p ++ marksString (d + 1) m) (p.length : Int) = mkString m := by rw [rdS_at _ _ hlt]; simp [marksString]
    have w1 : wrap64 (m + 1) = m + 1 := by unfold wrap64; omega
    have hn := ih k (p ++ [mkString m]) (m + 1) (by omega) (by simp; omega) (by omega) (by omega)
    rw [List.append_assoc, List.singleton_append, show (((p ++ [mkString m]).length : Nat) : Int) = ((p.length + 1 : Nat) : Int) from by simp] at hn
    simp only [laws_heldStringS.l0, Option.bind_some, mt_eq (m) (by omega) (by omega) k (by omega), w1, hat]
    rw [if_pos (by omega), if_pos (by omega), cast_wrap hlt (by omega)]
    simp only [mkString, ne_eq, not_true_eq_false, if_true, if_false]
    refine Eq.trans hn ?_
    rw [hc]
    exact congrArg some (by omega)
theorem heldStringS_eq (n : Nat) (m : Int) (k : Nat) (hk : n + 20 < k) (hl : n ≤ 1048576) (h0 : 0 ≤ m) (hm : m + 1 * n ≤ 100000000000000) : laws_heldStringS.f k (marksString n m) m = some (m + 1 * n) := by
  have := heldStringS_loop n k [] m hk (by simpa using hl) h0 hm
  unfold laws_heldStringS.f
  exact this
/-- a byte that a key may hold -/
def kb (b : Int) : Bool := decide ((48 ≤ b ∧ b ≤ 57) ∨ (97 ≤ b ∧ b ≤ 122) ∨ b = 47 ∨ b = 45)
theorem kspec_round (x : ByteArray) (k : Nat) (i : Int) (h0 : 0 ≤ i) (hl : i < (x.size : Int)) (hw : wrap64 (i + 1) = i + 1) :
    spec_KeyOK.l0 (k + 1) x i = if kb (bt x i) = true then spec_KeyOK.l0 k x (i + 1) else some false := by
  simp only [spec_KeyOK.l0, spec_l00Digit.f, hw]
  rw [if_pos hl, if_pos h0]
  unfold kb
  generalize bt x i = b
  by_cases a1 : b ≥ 48 <;> by_cases a2 : b ≤ 57 <;> by_cases a3 : b < 97 <;> by_cases a4 : b > 122 <;> by_cases a5 : b = 47 <;> by_cases a6 : b = 45 <;>
    first | omega | (simp [a1, a2, a3, a4, a5, a6] <;> omega)
theorem kimpl_round (x : ByteArray) (k : Nat) (i : Int) (h0 : 0 ≤ i) (hl : i < (x.size : Int)) (hw : wrap64 (i + 1) = i + 1) :
    impl_KeyOK.l0 (k + 1) x (x.size : Int) i = if kb (bt x i) = true then impl_KeyOK.l0 k x (x.size : Int) (i + 1) else some false := by
  simp only [impl_KeyOK.l0, hw]
  rw [if_pos hl, if_pos h0, if_pos hl]
  unfold kb
  generalize bt x i = b
  by_cases a1 : b < 48 <;> by_cases a2 : b > 57 <;> by_cases a3 : b < 97 <;> by_cases a4 : b > 122 <;> by_cases a5 : b = 47 <;> by_cases a6 : b = 45 <;>
    first | omega | (simp [a1, a2, a3, a4, a5, a6] <;> omega)
def kFrom (x : ByteArray) (i : Nat) : Bool := ((List.range x.size).drop i).all (fun j => kb (bt x (j : Int))) && (decide (1 ≤ (x.size : Int)) && decide ((x.size : Int) ≤ 30))
theorem kFrom_step (x : ByteArray) (i : Nat) (h : i < x.size) : kFrom x i = (kb (bt x (i : Int)) && kFrom x (i + 1)) := by
  unfold kFrom
  rw [List.drop_eq_getElem_cons (show i < (List.range x.size).length by rw [List.length_range]; exact h), List.all_cons, List.getElem_range, Bool.and_assoc]
theorem key_loops (x : ByteArray) (hn : x.size ≤ 140737488351232) (d : Nat) : ∀ (k i : Nat), i ≤ x.size → x.size - i = d → d < k →
    spec_KeyOK.l0 k x (i : Int) = some (kFrom x i) ∧ impl_KeyOK.l0 k x (x.size : Int) (i : Int) = some (kFrom x i) := by
  induction d with
  | zero =>
    intro k i h1 hd hk
    obtain ⟨k, rfl⟩ : ∃ m, k = m + 1 := ⟨k - 1, by omega⟩
    obtain rfl : i = x.size := by omega
    have e : kFrom x x.size = (decide (1 ≤ (x.size : Int)) && decide ((x.size : Int) ≤ 30)) := by
      unfold kFrom
      rw [List.drop_of_length_le (by rw [List.length_range]; exact Nat.le_refl _)]
      rfl
    simp only [spec_KeyOK.l0, impl_KeyOK.l0, in_eq, within_eq, Option.bind_some]
    rw [if_neg (by omega), e]
    exact ⟨rfl, by rw [if_neg (by omega)]⟩
  | succ d ih =>
    intro k i h1 hd hk
    obtain ⟨k, rfl⟩ : ∃ m, k = m + 1 := ⟨k - 1, by omega⟩
    have hlt : i < x.size := by omega
    have hw : wrap64 ((i : Int) + 1) = (i : Int) + 1 := by unfold wrap64; omega
    obtain ⟨h1, h2⟩ := ih k (i + 1) (by omega) (by omega) (by omega)
    have e : ((i : Int) + 1) = ((i + 1 : Nat) : Int) := by omega
    rw [kspec_round x k i (by omega) (by omega) hw, kimpl_round x k i (by omega) (by omega) hw, e, h1, h2, kFrom_step x i hlt]
    cases kb (bt x (i : Int)) <;> simp
/-- a key -/
def kOK (x : ByteArray) : Bool := kFrom x 0
theorem keyOK_eq (x : ByteArray) (hn : x.size ≤ 140737488351232) (k : Nat) (hk : x.size < k) : spec_KeyOK.f k x = some (kOK x) ∧ impl_KeyOK.f k x = some (kOK x) := by
  obtain ⟨h1, h2⟩ := key_loops x hn x.size k 0 (by omega) (by omega) hk
  unfold spec_KeyOK.f impl_KeyOK.f
  have e : ((0 : Nat) : Int) = 0 := rfl
  rw [e] at h1 h2
  refine ⟨?_, h2⟩
  by_cases h : (x.size : Int) > 65536
  · rw [if_pos h]
    have : kOK x = false := by
      unfold kOK kFrom
      rw [decide_eq_false (show ¬ (x.size : Int) ≤ 30 by omega)]
      simp
    rw [this]
  · rw [if_neg h]
    exact h1
/-- what is asked of the object at place i -/
def dupB (l : List S111) (i : Nat) (v : Int) : Bool := (l.take i).any (fun x => decide (x.f1 = v))
def ordB (l : List S111) (i : Nat) : Bool := decide (i = 0) || Op.bytesLess ((l.getD (i - 1) z111).f0).toList ((l.getD i z111).f0).toList
def objB (l : List S111) (next : Int) (i : Nat) : Bool :=
  kOK (l.getD i z111).f0 && ((decide (1 ≤ (l.getD i z111).f1) && decide ((l.getD i z111).f1 ≤ wrap64 (next - 1))) && (decide (((l.getD i z111).f2.size : Int) ≤ 600) && (ordB l i && !(dupB l i (l.getD i z111).f1))))
def objsB (l : List S111) (next : Int) (i : Nat) : Bool := ((List.range l.length).drop i).all (fun j => objB l next j)
theorem objsB_step (l : List S111) (next : Int) (i : Nat) (h : i < l.length) : objsB l next i = (objB l next i && objsB l next (i + 1)) := by
  unfold objsB
  rw [List.drop_eq_getElem_cons (show i < (List.range l.length).length by rw [List.length_range]; exact h), List.all_cons, List.getElem_range]
theorem objsB_end (l : List S111) (next : Int) : objsB l next l.length = true := by
  unfold objsB
  rw [List.drop_of_length_le (by rw [List.length_range]; exact Nat.le_refl _)]
  rfl
def storeB (l : List S111) (next : Int) : Bool := objsB l next 0 && (decide ((l.length : Int) ≤ 300) && (decide (1 ≤ next) && decide (next ≤ 1000000000)))
theorem dup_loop (l : List S111) (hl : l.length ≤ 1048576) (next v : Int) (a b : ByteArray) (i : Nat) (hi : i < l.length) (d : Nat) : ∀ (k0 j : Nat), j ≤ i → i - j = d →
    spec_StoreOK.l1 (k0 + d + 1) (i : Int) (j : Int) l next a v b = if ((l.take i).drop j).any (fun x => decide (x.f1 = v)) = true then some false else spec_StoreOK.l0 k0 ((i + 1 : Nat) : Int) l next := by
  have hw : wrap64 ((i : Int) + 1) = ((i + 1 : Nat) : Int) := by unfold wrap64; omega
  induction d with
  | zero =>
    intro k0 j hj hd
    obtain rfl : j = i := by omega
    simp only [spec_StoreOK.l1]
    rw [if_neg (by omega), hw, List.drop_of_length_le (by rw [List.length_take]; omega)]
    rfl
  | succ d ih =>
    intro k0 j hj hd
    have hlt : j < i := by omega
    have hwj : wrap64 ((j : Int) + 1) = ((j + 1 : Nat) : Int) := by unfold wrap64; omega
    have hd2 : (l.take i).drop j = l[j]'(by omega) :: (l.take i).drop (j + 1) := by
      rw [List.drop_eq_getElem_cons (show j < (l.take i).length by rw [List.length_take]; omega), List.getElem_take]
    have ihj := ih k0 (j + 1) (by omega) (by omega)
    rw [show k0 + (d + 1) + 1 = (k0 + d + 1) + 1 by omega]
    generalize k0 + d + 1 = K at ihj ⊢
    simp only [spec_StoreOK.l1]
    rw [if_pos (by omega), if_pos (by omega), if_pos (by omega), rd111_at l j (by omega), hwj, ihj, hd2, List.any_cons]
    by_cases hv : (l[j]'(by omega)).f1 = v
    · rw [if_pos hv, decide_eq_true hv]; simp
    · rw [if_neg hv, decide_eq_false hv]; simp
theorem getD_at (l : List S111) (i : Nat) (h : i < l.length) : l.getD i z111 = l[i] := by
  rw [List.getD_eq_getElem?_getD, List.getElem?_eq_getElem h]; rfl
theorem sspec_step (l : List S111) (hl : l.length ≤ 1048576) (next : Int) (i : Nat) (hi : i < l.length) (k0 : Nat) (hk : (l[i]).f0.size < k0) (hs : (l[i]).f0.size ≤ 140737488351232) :
    spec_StoreOK.l0 (k0 + i + 3) (i : Int) l next = if objB l next i = true then spec_StoreOK.l0 k0 ((i + 1 : Nat) : Int) l next else some false := by
  have hd := dup_loop l hl next (l[i]).f1 (l[i]).f0 (l[i]).f2 i hi i k0 0 (by omega) (by omega)
  rw [show k0 + i + 3 = (k0 + i + 1 + 1) + 1 by omega]
  obtain ⟨hkk, _⟩ := keyOK_eq (l[i]).f0 hs (k0 + i + 1 + 1) (by omega)
  have e0 : ((0 : Nat) : Int) = 0 := rfl
  rw [e0, List.drop_zero] at hd
  simp only [spec_StoreOK.l0]
  rw [if_pos (by omega), if_pos (by omega), rd111_at l i hi, hkk]
  simp only [Option.bind_some, in_eq, spec_StoreOK.j1]
  rw [hd]
  unfold objB dupB
  rw [getD_at l i hi]
  cases kOK (l[i]).f0 with
  | false => simp
  | true =>
    simp only [if_true, Bool.true_and]
    cases (decide (1 ≤ (l[i]).f1) && decide ((l[i]).f1 ≤ wrap64 (next - 1))) with
    | false => simp
    | true =>
      simp only [if_true, Bool.true_and]
      by_cases h6 : (((l[i]).f2).size : Int) > 600
      · rw [if_pos h6, decide_eq_false (show ¬ (((l[i]).f2).size : Int) ≤ 600 by omega)]
        simp
      · rw [if_neg h6, decide_eq_true (show (((l[i]).f2).size : Int) ≤ 600 by omega), Bool.true_and]
        rcases Nat.eq_zero_or_pos i with h0 | h0
        · subst h0
          simp [ordB]
        · have hw : wrap64 ((i : Int) - 1) = ((i - 1 : Nat) : Int) := by unfold wrap64; omega
          have hr : rd_T111 l ((i - 1 : Nat) : Int) = l.getD (i - 1) z111 := by unfold rd_T111; rw [Int.toNat_natCast]
          rw [if_pos (by omega), hw, hr]
          unfold ordB
          rw [if_pos (by omega), if_pos (by omega), decide_eq_false (show ¬ i = 0 by omega), Bool.false_or, getD_at l i hi]
          cases Op.bytesLess ((l.getD (i - 1) z111).f0).toList ((l[i]).f0).toList <;> cases (l.take i).any (fun x => decide (x.f1 = (l[i]).f1)) <;> simp
def mets (l : List S111) (i : Nat) : List Int := ((l.take i).map (fun x => x.f1)).reverse
theorem mets_has (l : List S111) (i : Nat) (v : Int) : (mets l i).contains v = dupB l i v := by
  unfold mets dupB
  rw [Bool.eq_iff_iff, List.contains_iff_mem, List.mem_reverse, List.mem_map, List.any_eq_true]
  constructor
  · rintro ⟨x, hx, e⟩; exact ⟨x, hx, by simpa using e⟩
  · rintro ⟨x, hx, e⟩; exact ⟨x, hx, by simpa using e⟩
theorem mets_next (l : List S111) (i : Nat) (h : i < l.length) : (l[i]).f1 :: mets l i = mets l (i + 1) := by
  unfold mets
  rw [List.take_succ_eq_append_getElem h, List.map_append, List.reverse_append]
  rfl
theorem simpl_step (l : List S111) (hl : l.length ≤ 300) (next : Int) (i : Nat) (hi : i < l.length) (k : Nat) (hk : (l[i]).f0.size < k) (hs : (l[i]).f0.size ≤ 140737488351232) :
    impl_StoreOK.l0 (k + 1) l (l.length : Int) (i : Int) l next (mets l i) = if objB l next i = true then impl_StoreOK.l0 k l (l.length : Int) ((i + 1 : Nat) : Int) l next (mets l (i + 1)) else some false := by
  obtain ⟨_, hkk⟩ := keyOK_eq (l[i]).f0 hs k hk
  have hwi : wrap64 ((i : Int) + 1) = ((i + 1 : Nat) : Int) := by unfold wrap64; omega
  have hm : (mets l i).length < 4096 := by unfold mets; rw [List.length_reverse, List.length_map, List.length_take]; omega
  simp only [impl_StoreOK.l0]
  rw [if_pos (by omega), if_pos (by omega), if_pos (by omega), rd111_at l i hi, hkk]
  simp only [Option.bind_some, within_eq, if_pos hm, hwi]
  rw [mets_has, mets_next l i hi]
  unfold objB
  rw [getD_at l i hi]
  cases kOK (l[i]).f0 with
  | false => simp
  | true =>
    simp only [if_true, Bool.true_and]
    cases (decide (1 ≤ (l[i]).f1) && decide ((l[i]).f1 ≤ wrap64 (next - 1))) with
    | false => simp
    | true =>
      simp only [if_true, Bool.true_and]
      by_cases h6 : (((l[i]).f2).size : Int) > 600
      · rw [if_pos h6, decide_eq_false (show ¬ (((l[i]).f2).size : Int) ≤ 600 by omega)]
        simp
      · rw [if_neg h6, decide_eq_true (show (((l[i]).f2).size : Int) ≤ 600 by omega), Bool.true_and]
        rcases Nat.eq_zero_or_pos i with h0 | h0
        · subst h0
          cases dupB l 0 (l[0]).f1 <;> simp [ordB]
        · have hw : wrap64 ((i : Int) - 1) = ((i - 1 : Nat) : Int) := by unfold wrap64; omega
          have hr : rd_T111 l ((i - 1 : Nat) : Int) = l.getD (i - 1) z111 := by unfold rd_T111; rw [Int.toNat_natCast]
          cases dupB l i (l[i]).f1 with
          | true => simp
          | false =>
            simp only [Bool.false_eq_true, if_false]
            rw [if_pos (show (i : Int) > 0 by omega), hw, hr, if_pos (by omega), if_pos (by omega)]
            unfold ordB
            rw [decide_eq_false (show ¬ i = 0 by omega), Bool.false_or, getD_at l i hi]
            cases Op.bytesLess ((l.getD (i - 1) z111).f0).toList ((l[i]).f0).toList <;> simp
theorem sspec_loop (l : List S111) (hl : l.length ≤ 1048576) (S : Nat) (hS : S ≤ 140737488351232) (hs : ∀ x ∈ l, x.f0.size ≤ S) (next : Int) (d : Nat) : ∀ (k i : Nat), i ≤ l.length → l.length - i = d → d * (l.length + 5) + S + 5 < k →
    spec_StoreOK.l0 k (i : Int) l next = some (objsB l next i && (decide ((l.length : Int) ≤ 300) && (decide (1 ≤ next) && decide (next ≤ 1000000000)))) := by
  induction d with
  | zero =>
    intro k i hi hd hk
    obtain ⟨k, rfl⟩ : ∃ m, k = m + 1 := ⟨k - 1, by omega⟩
    obtain rfl : i = l.length := by omega
    simp only [spec_StoreOK.l0, in_eq, Option.bind_some]
    rw [if_neg (by omega), objsB_end, Bool.true_and]
    by_cases h : (l.length : Int) ≤ 300
    · rw [if_pos h, decide_eq_true h, Bool.true_and]
    · rw [if_neg h, decide_eq_false h, Bool.false_and]
  | succ d ih =>
    intro k i hi hd hk
    have hlt : i < l.length := by omega
    have hm : (d + 1) * (l.length + 5) = d * (l.length + 5) + (l.length + 5) := Nat.succ_mul _ _
    have hx := hs l[i] (List.getElem_mem hlt)
    generalize d * (l.length + 5) = D at hm ih
    rw [hm] at hk
    clear hm
    obtain ⟨k0, rfl⟩ : ∃ m, k = m + i + 3 := ⟨k - i - 3, by omega⟩
    rw [sspec_step l hl next i hlt k0 (by omega) (by omega), ih k0 (i + 1) (by omega) (by omega) (by omega), objsB_step l next i hlt]
    cases objB l next i <;> simp
theorem simpl_loop (l : List S111) (hl : l.length ≤ 300) (S : Nat) (hS : S ≤ 140737488351232) (hs : ∀ x ∈ l, x.f0.size ≤ S) (next : Int) (d : Nat) : ∀ (k i : Nat), i ≤ l.length → l.length - i = d → d + S + 5 < k →
    impl_StoreOK.l0 k l (l.length : Int) (i : Int) l next (mets l i) = some (objsB l next i) := by
  induction d with
  | zero =>
    intro k i hi hd hk
    obtain ⟨k, rfl⟩ : ∃ m, k = m + 1 := ⟨k - 1, by omega⟩
    obtain rfl : i = l.length := by omega
    simp only [impl_StoreOK.l0]
    rw [if_neg (by omega), objsB_end]
  | succ d ih =>
    intro k i hi hd hk
    have hlt : i < l.length := by omega
    have hx := hs l[i] (List.getElem_mem hlt)
    obtain ⟨k, rfl⟩ : ∃ m, k = m + 1 := ⟨k - 1, by omega⟩
    rw [simpl_step l hl next i hlt k (by omega) (by omega), ih k (i + 1) (by omega) (by omega) (by omega), objsB_step l next i hlt]
    cases objB l next i <;> simp
/-- a right store: both tell the same -/
theorem store_same (l : List S111) (hl : l.length ≤ 1048576) (S : Nat) (hS : S ≤ 140737488351232) (hs : ∀ x ∈ l, x.f0.size ≤ S) (next : Int) (k : Nat) (hk : l.length * (l.length + 5) + S + 320 < k) :
    spec_StoreOK.f k l next = some (storeB l next) ∧ impl_StoreOK.f k l next = some (storeB l next) := by
  have h1 := sspec_loop l hl S hS hs next l.length k 0 (by omega) (by omega) (by omega)
  refine ⟨h1, ?_⟩
  unfold impl_StoreOK.f storeB
  obtain ⟨k, rfl⟩ : ∃ m, k = m + 1 := ⟨k - 1, by omega⟩
  simp only [within_eq, Option.bind_some, impl_StoreOK.j0]
  cases (decide (1 ≤ next) && decide (next ≤ 1000000000)) with
  | false => simp
  | true =>
    simp only [if_true, Bool.and_true]
    by_cases h : (l.length : Int) > 300
    · rw [if_pos (decide_eq_true h), decide_eq_false (show ¬ (l.length : Int) ≤ 300 by omega)]
      simp
    · have h2 := simpl_loop l (by omega) S hS hs next l.length k 0 (by omega) (by omega) (by omega)
      rw [if_neg (by simpa using h), decide_eq_true (show (l.length : Int) ≤ 300 by omega), Bool.and_true]
      exact h2
theorem dig_one (c : Nat) (hc : c < 10) : strOfNums [(wrap64 (48 + (c : Int))) % 256] = (⟨#[UInt8.ofNat (48 + c)]⟩ : ByteArray) := by
  have e : (wrap64 (48 + (c : Int))) % 256 = ((48 + c : Nat) : Int) := by unfold wrap64; omega
  rw [e]
  unfold strOfNums
  rw [List.map_cons, List.map_nil, Int.toNat_natCast]
theorem mk_append (a b : List UInt8) : (⟨a.toArray⟩ : ByteArray) ++ (⟨b.toArray⟩ : ByteArray) = ⟨(a ++ b).toArray⟩ := by
  apply ByteArray.ext
  simp [ByteArray.data_append]
theorem dig_nat (d : Nat) : ∀ (k u : Nat), u < 10 ^ (d + 1) → u ≤ 9223372036854775807 → d < k → d < 100 → spec_l00Digits.f k (u : Int) = some ⟨(Lib.decDigits u).toArray⟩ ∧ (Lib.decDigits u).length ≤ d + 1 := by
  induction d with
  | zero =>
    intro k u hu h0 hk hd
    obtain ⟨k, rfl⟩ : ∃ m, k = m + 1 := ⟨k - 1, by omega⟩
    simp only [spec_l00Digits.f]
    rw [if_neg (by omega), if_neg (by omega), if_pos (by omega), dig_one u (by omega), Lib.decDigits_one (by omega)]
    exact ⟨rfl, by simp⟩
  | succ d ih =>
    intro k u hu h0 hk hd
    obtain ⟨k, rfl⟩ : ∃ m, k = m + 1 := ⟨k - 1, by omega⟩
    simp only [spec_l00Digits.f]
    by_cases h : u < 10
    · rw [if_neg (by omega), if_neg (by omega), if_pos (by omega), dig_one u h, Lib.decDigits_one h]
      exact ⟨rfl, by simp⟩
    · have hp : 10 ^ (d + 1 + 1) = 10 ^ (d + 1) * 10 := Nat.pow_succ ..
      have e1 : wrap64 (Int.tdiv (u : Int) 10) = ((u / 10 : Nat) : Int) := by
        have : Int.tdiv (u : Int) 10 = ((u / 10 : Nat) : Int) := by
          rw [Int.tdiv_eq_ediv_of_nonneg (by omega)]; rfl
        rw [this]; unfold wrap64; omega
      have e2 : Int.tmod (u : Int) 10 = ((u % 10 : Nat) : Int) := by
        rw [Int.tmod_eq_emod_of_nonneg (by omega)]; rfl
      obtain ⟨i1, i2⟩ := ih k (u / 10) (by omega) (by omega) (by omega) (by omega)
      rw [if_neg (by omega), if_neg (by omega), if_neg (by omega), e1, i1, e2]
      simp only [Option.bind_some]
      rw [dig_one (u % 10) (by omega), if_pos]
      · have hd : Lib.decDigits u = Lib.decDigits (u / 10) ++ [UInt8.ofNat (48 + u % 10)] := by
          conv => lhs; rw [Lib.decDigits]
          rw [dif_neg h]
        rw [hd, ← mk_append]
        refine ⟨rfl, ?_⟩
        rw [List.length_append, List.length_singleton]
        omega
      · show ((Lib.decDigits (u / 10)).toArray).size + 1 ≤ _
        rw [List.size_toArray]
        omega
theorem digits_eq (n : Int) (h0 : -9223372036854775808 ≤ n) (h1 : n ≤ 9223372036854775807) (k : Nat) (hk : 21 ≤ k) : spec_l00Digits.f k n = some ⟨(Lib.itoa n).toArray⟩ := by
  obtain ⟨k, rfl⟩ : ∃ m, k = m + 1 := ⟨k - 1, by omega⟩
  by_cases hn : n < 0
  · by_cases hm : n = -9223372036854775808
    · subst hm
      simp only [spec_l00Digits.f]
      rw [if_pos trivial]
      have e : Lib.itoa (-9223372036854775808) = 45 :: Lib.decDigits 9223372036854775808 := by unfold Lib.itoa; rw [if_pos (by decide)]; rfl
      have hq : Lib.decDigits 9223372036854775808 = Lib.decDigits 922337203685477580 ++ [UInt8.ofNat (48 + 8)] := by
        conv => lhs; rw [Lib.decDigits]
        rw [dif_neg (by decide)]
      rw [e, hq]
      simp [Lib.decDigits]
    · obtain ⟨u, rfl⟩ : ∃ u : Nat, n = -(u : Int) := ⟨n.natAbs, by omega⟩
      have e : wrap64 (-(-(u : Int))) = (u : Int) := by unfold wrap64; omega
      obtain ⟨i1, i2⟩ := dig_nat 19 k u (by omega) (by omega) (by omega) (by omega)
      simp only [spec_l00Digits.f]
      rw [if_neg hm, if_pos hn, e, i1]
      simp only [Option.bind_some]
      rw [if_pos]
      · have : Lib.itoa (-(u : Int)) = [45] ++ Lib.decDigits u := by unfold Lib.itoa; rw [if_pos hn]; simp
        rw [this, ← mk_append]
      · show 1 + ((Lib.decDigits u).toArray).size ≤ _
        rw [List.size_toArray]
        omega
  · obtain ⟨u, rfl⟩ : ∃ u : Nat, n = (u : Int) := ⟨n.toNat, by omega⟩
    rw [(dig_nat 19 (k + 1) u (by omega) (by omega) (by omega) (by omega)).1]
    have : Lib.itoa (u : Int) = Lib.decDigits u := by unfold Lib.itoa; rw [if_neg hn]; simp
    rw [this]
theorem itoa_size (n : Int) (h0 : -9223372036854775808 ≤ n) (h1 : n ≤ 9223372036854775807) : (⟨(Lib.itoa n).toArray⟩ : ByteArray).size ≤ 21 := by
  show ((Lib.itoa n).toArray).size ≤ 21
  rw [List.size_toArray]
  exact Lib.itoa_length_le n h0 h1
/-- the last w digits -/
def fw : Nat → Nat → List UInt8
  | 0, _ => []
  | w + 1, u => fw w (u / 10) ++ [UInt8.ofNat (48 + u % 10)]
theorem fw_length : ∀ w u, (fw w u).length = w
  | 0, _ => rfl
  | w + 1, u => by simp [fw, fw_length w]
theorem dec_step (u : Nat) (h : ¬ u < 10) : Lib.decDigits u = Lib.decDigits (u / 10) ++ [UInt8.ofNat (48 + u % 10)] := by
  conv => lhs; rw [Lib.decDigits]
  rw [dif_neg h]
theorem fw_dec : ∀ (w u : Nat), u < 10 ^ w → Lib.decDigits (10 ^ w + u) = 49 :: fw w u
  | 0, u, h => by
    obtain rfl : u = 0 := by simpa using h
    rw [Lib.decDigits_one (by decide)]
    rfl
  | w + 1, u, h => by
    have hp : 10 ^ (w + 1) = 10 ^ w * 10 := Nat.pow_succ ..
    have h1 : 1 ≤ 10 ^ w := Nat.one_le_pow _ _ (by decide)
    rw [dec_step _ (by omega), show (10 ^ (w + 1) + u) / 10 = 10 ^ w + u / 10 by omega, show (10 ^ (w + 1) + u) % 10 = u % 10 by omega, fw_dec w (u / 10) (by omega)]
    rfl
theorem fw_pad : ∀ (w u : Nat), u < 10 ^ (w + 1) → fw (w + 1) u = List.replicate (w + 1 - (Lib.decDigits u).length) 48 ++ Lib.decDigits u ∧ (Lib.decDigits u).length ≤ w + 1
  | 0, u, h => by
    have hu : u < 10 := by simpa using h
    rw [Lib.decDigits_one hu]
    simp [fw, Nat.mod_eq_of_lt hu]
  | w + 1, u, h => by
    have hp : 10 ^ (w + 1 + 1) = 10 ^ (w + 1) * 10 := Nat.pow_succ ..
    obtain ⟨i1, i2⟩ := fw_pad w (u / 10) (by omega)
    rw [fw, i1]
    by_cases hu : u < 10
    · have h0 : u / 10 = 0 := by omega
      rw [h0, Lib.decDigits_one (show 0 < 10 by decide), Lib.decDigits_one hu, Nat.mod_eq_of_lt hu]
      refine ⟨?_, by simp⟩
      have e : UInt8.ofNat (48 + 0) = 48 := rfl
      rw [e]
      simp only [List.length_singleton, Nat.add_sub_cancel]
      rw [show w + 1 = (w + 1) from rfl, List.replicate_succ' (n := w)]
    · rw [dec_step u hu]
      refine ⟨?_, by simp; omega⟩
      rw [List.length_append, List.length_singleton, ← List.append_assoc]
      congr 3
      omega
theorem wide_loop (d : Nat) : ∀ (k : Nat) (l : List UInt8), l.length ≤ 6 → 6 - l.length = d → d < k → spec_l03Wide.l0 k 6 ⟨l.toArray⟩ = some ⟨(List.replicate d 48 ++ l).toArray⟩ := by
  induction d with
  | zero =>
    intro k l hl hd hk
    obtain ⟨k, rfl⟩ : ∃ m, k = m + 1 := ⟨k - 1, by omega⟩
    simp only [spec_l03Wide.l0]
    rw [if_neg]
    · rfl
    · show ¬ ((l.toArray.size : Nat) : Int) < 6
      rw [List.size_toArray]; omega
  | succ d ih =>
    intro k l hl hd hk
    obtain ⟨k, rfl⟩ : ∃ m, k = m + 1 := ⟨k - 1, by omega⟩
    simp only [spec_l03Wide.l0]
    rw [if_pos, if_pos]
    · have e : (⟨#[48]⟩ : ByteArray) ++ (⟨l.toArray⟩ : ByteArray) = ⟨(48 :: l).toArray⟩ := mk_append [48] l
      rw [e, ih k (48 :: l) (by simp; omega) (by simp; omega) (by omega), List.replicate_succ', List.append_assoc]
      rfl
    · show 1 + l.toArray.size ≤ _
      rw [List.size_toArray]; omega
    · show ((l.toArray.size : Nat) : Int) < 6
      rw [List.size_toArray]; omega
def s6 (n : Int) : ByteArray := ⟨(fw 6 n.toNat).toArray⟩
theorem s6_size (n : Int) : (s6 n).size = 6 := by
  show (fw 6 n.toNat).toArray.size = 6
  rw [List.size_toArray, fw_length]
theorem wide_eq (n : Int) (h0 : 0 ≤ n) (h1 : n ≤ 999999) (k : Nat) (hk : 21 ≤ k) : spec_l03Wide.f k n 6 = some (s6 n) := by
  obtain ⟨u, rfl⟩ : ∃ u : Nat, n = (u : Int) := ⟨n.toNat, by omega⟩
  unfold spec_l03Wide.f
  rw [digits_eq _ (by omega) (by omega) k hk]
  simp only [Option.bind_some]
  have e : Lib.itoa (u : Int) = Lib.decDigits u := by unfold Lib.itoa; rw [if_neg (by omega)]; simp
  obtain ⟨p1, p2⟩ := fw_pad 5 u (by omega)
  rw [e, wide_loop (6 - (Lib.decDigits u).length) k _ p2 rfl (by omega)]
  unfold s6
  rw [Int.toNat_natCast, p1]
theorem six_eq (n : Int) (h0 : 0 ≤ n) (h1 : n ≤ 999999) : impl_six.f n = some (s6 n) := by
  obtain ⟨u, rfl⟩ : ∃ u : Nat, n = (u : Int) := ⟨n.toNat, by omega⟩
  have hw : wrap64 (1000000 + (u : Int)) = ((10 ^ 6 + u : Nat) : Int) := by unfold wrap64; omega
  unfold impl_six.f strconv_Itoa.f
  rw [hw, if_pos (by omega)]
  have e : Lib.itoa ((10 ^ 6 + u : Nat) : Int) = 49 :: fw 6 u := by
    unfold Lib.itoa
    rw [if_neg (by omega), Int.toNat_natCast, fw_dec 6 u (by omega)]
  simp only [Option.bind_some]
  rw [e]
  have hsz : (⟨(49 :: fw 6 u).toArray⟩ : ByteArray).size = 7 := by
    show (49 :: fw 6 u).toArray.size = 7
    rw [List.size_toArray, List.length_cons, fw_length]
  rw [hsz, if_pos (by decide)]
  unfold s6
  rw [Int.toNat_natCast]
  have hx : (⟨(49 :: fw 6 u).toArray⟩ : ByteArray).extract 1 7 = ⟨(fw 6 u).toArray⟩ := by
    apply ByteArray.ext
    rw [ByteArray.data_extract]
    simp [List.extract, fw_length]
    exact List.take_of_length_le (by rw [fw_length]; omega)
  rw [hx]
def pre3 (a : Int) : List UInt8 := if a = 0 then [114, 97, 119, 47] else if a = 1 then [116, 49, 47] else [116, 50, 47]
def keyB (a b c : Int) : ByteArray := ⟨(pre3 a ++ fw 6 b.toNat ++ [45] ++ fw 6 c.toNat).toArray⟩
theorem key_spec (a b c : Int) (h1 : 0 ≤ a ∧ a ≤ 2) (h2 : 0 ≤ b ∧ b ≤ 999999) (h3 : 0 ≤ c ∧ c ≤ 999999) (k : Nat) (hk : 21 ≤ k) : spec_l03Key.f k a b c = some (keyB a b c) := by
  unfold spec_l03Key.f
  rw [wide_eq b h2.1 h2.2 k hk, wide_eq c h3.1 h3.2 k hk]
  simp only [Option.bind_some]
  have hs := s6_size b
  have ht := s6_size c
  have hz : ∀ (l : List UInt8), (⟨l.toArray⟩ : ByteArray).size = l.length := fun l => by show l.toArray.size = _; rw [List.size_toArray]
  rw [if_pos h1.1, if_pos (by show a < (3 : Int); omega)]
  have hx : rdOf ByteArray.empty [(⟨#[114, 97, 119]⟩ : ByteArray), (⟨#[116, 49]⟩ : ByteArray), (⟨#[116, 50]⟩ : ByteArray)] a = if a = 0 then (⟨#[114, 97, 119]⟩ : ByteArray) else if a = 1 then (⟨#[116, 49]⟩ : ByteArray) else (⟨#[116, 50]⟩ : ByteArray) := by
    have : a = 0 ∨ a = 1 ∨ a = 2 := by omega
    rcases this with rfl | rfl | rfl <;> rfl
  rw [hx]
  have ex : (if a = 0 then (⟨#[114, 97, 119]⟩ : ByteArray) else if a = 1 then (⟨#[116, 49]⟩ : ByteArray) else (⟨#[116, 50]⟩ : ByteArray)) ++ (⟨#[47]⟩ : ByteArray) = ⟨(pre3 a).toArray⟩ := by
    unfold pre3
    split
    · rfl
    · split <;> rfl
  have hl : (pre3 a).length ≤ 4 := by
    unfold pre3
    split
    · decide
    · split <;> decide
  have hy : (if a = 0 then (⟨#[114, 97, 119]⟩ : ByteArray) else if a = 1 then (⟨#[116, 49]⟩ : ByteArray) else (⟨#[116, 50]⟩ : ByteArray)).size ≤ 3 := by
    split
    · decide
    · split <;> decide
  rw [if_pos (by omega), ex, if_pos (by rw [hz]; omega)]
  have e2 : (⟨(pre3 a).toArray⟩ : ByteArray) ++ s6 b = ⟨(pre3 a ++ fw 6 b.toNat).toArray⟩ := mk_append _ _
  have e3 : (⟨(pre3 a ++ fw 6 b.toNat).toArray⟩ : ByteArray) ++ (⟨#[45]⟩ : ByteArray) = ⟨(pre3 a ++ fw 6 b.toNat ++ [45]).toArray⟩ := mk_append _ [45]
  have e4 : (⟨(pre3 a ++ fw 6 b.toNat ++ [45]).toArray⟩ : ByteArray) ++ s6 c = keyB a b c := mk_append _ _
  rw [e2, if_pos (by rw [hz, List.length_append, fw_length]; omega), e3, if_pos (by rw [hz, List.length_append, List.length_append, fw_length, List.length_singleton]; omega), e4]
theorem size_mk (l : List UInt8) : (⟨l.toArray⟩ : ByteArray).size = l.length := by
  show l.toArray.size = l.length
  rw [List.size_toArray]
theorem mk_data (s : ByteArray) : (⟨s.data.toList.toArray⟩ : ByteArray) = s := by
  cases s
  simp
theorem bt_mk (l : List UInt8) (i : Nat) (h : i < l.length) : bt ⟨l.toArray⟩ (i : Int) = ((l[i].toNat : Nat) : Int) := by
  rw [← bt_at _ _ (by rw [Int.toNat_natCast, size_mk]; exact h)]
  simp only [Int.toNat_natCast]
  rfl
theorem extract_mk (l : List UInt8) (i : Nat) : (⟨l.toArray⟩ : ByteArray).extract i (⟨l.toArray⟩ : ByteArray).size = ⟨(l.drop i).toArray⟩ := by
  rw [size_mk]
  apply ByteArray.ext
  rw [ByteArray.data_extract]
  simp [List.extract, List.take_of_length_le]
def isDig (c : UInt8) : Bool := decide (48 ≤ c.toNat) && decide (c.toNat ≤ 57)
def dval (a : Nat) (l : List UInt8) : Nat := l.foldl (fun a c => a * 10 + (c.toNat - 48)) a
theorem dval_cons (a : Nat) (c : UInt8) (l : List UInt8) : dval a (c :: l) = dval (a * 10 + (c.toNat - 48)) l := by
  unfold dval
  rw [List.foldl_cons]
theorem dval_append (a : Nat) (l : List UInt8) (c : UInt8) : dval a (l ++ [c]) = dval a l * 10 + (c.toNat - 48) := by
  unfold dval
  rw [List.foldl_append, List.foldl_cons, List.foldl_nil]
theorem dval_ge (l : List UInt8) : ∀ a, a ≤ dval a l := by
  induction l with
  | nil => intro a; exact Nat.le_refl a
  | cons c l ih =>
    intro a
    rw [dval_cons]
    have := ih (a * 10 + (c.toNat - 48))
    omega
theorem dval_lt (l : List UInt8) : ∀ a, (l.all isDig) = true → dval a l < (a + 1) * 10 ^ l.length := by
  induction l with
  | nil => intro a _; simp [dval]
  | cons c l ih =>
    intro a h
    rw [List.all_cons, Bool.and_eq_true] at h
    have h1 : c.toNat ≤ 57 := by have := h.1; simp [isDig] at this; omega
    have := ih (a * 10 + (c.toNat - 48)) h.2
    rw [dval_cons, List.length_cons, Nat.pow_succ]
    refine Nat.lt_of_lt_of_le this ?_
    have e : (a + 1) * (10 ^ l.length * 10) = ((a + 1) * 10) * 10 ^ l.length := by rw [Nat.mul_comm (10 ^ l.length) 10, Nat.mul_assoc]
    rw [e]
    exact Nat.mul_le_mul_right _ (by omega)
theorem parse_ok (l : List UInt8) : ∀ a, (l.all isDig) = true → dval a l ≤ 1000000000000000000 → Lib.parseUint10 a l = .ok (dval a l) := by
  induction l with
  | nil => intro a _ _; rfl
  | cons c l ih =>
    intro a h hb
    rw [List.all_cons, Bool.and_eq_true] at h
    have hc : 48 ≤ c.toNat ∧ c.toNat ≤ 57 := by have := h.1; simp [isDig] at this; omega
    rw [dval_cons] at hb ⊢
    have hg := dval_ge l (a * 10 + (c.toNat - 48))
    simp only [Lib.parseUint10]
    rw [if_pos hc, if_neg (by omega), if_neg (by omega)]
    exact ih _ h.2 hb
theorem ofNat_toNat (n : Nat) (h : n < 256) : (UInt8.ofNat n).toNat = n := by
  simp only [UInt8.toNat_ofNat']
  omega
theorem dec_dig (d : Nat) : ∀ u, u ≤ d → ((Lib.decDigits u).all isDig) = true ∧ dval 0 (Lib.decDigits u) = u ∧ Lib.decDigits u ≠ [] := by
  induction d with
  | zero =>
    intro u h
    obtain rfl : u = 0 := by omega
    rw [Lib.decDigits_one (by decide)]
    exact ⟨by decide, by decide, by simp⟩
  | succ d ih =>
    intro u h
    by_cases hu : u < 10
    · rw [Lib.decDigits_one hu]
      have e := ofNat_toNat (48 + u) (by omega)
      refine ⟨?_, ?_, by simp⟩
      · simp only [List.all_cons, List.all_nil, Bool.and_true, isDig, e]
        simp
        omega
      · show 0 * 10 + ((UInt8.ofNat (48 + u)).toNat - 48) = u
        rw [e]; omega
    · have hs : Lib.decDigits u = Lib.decDigits (u / 10) ++ [UInt8.ofNat (48 + u % 10)] := by
        conv => lhs; rw [Lib.decDigits]
        rw [dif_neg hu]
      obtain ⟨i1, i2, i3⟩ := ih (u / 10) (by omega)
      have e := ofNat_toNat (48 + u % 10) (by omega)
      rw [hs]
      refine ⟨?_, ?_, by simp⟩
      · rw [List.all_append, i1]
        simp only [List.all_cons, List.all_nil, Bool.and_true, isDig, e, Bool.true_and]
        simp
        omega
      · rw [dval_append, i2, e]; omega
theorem dec_head (d : Nat) : ∀ u, u ≤ d → 1 ≤ u → ∃ c l, Lib.decDigits u = c :: l ∧ c.toNat ≠ 48 := by
  induction d with
  | zero => intro u h h1; omega
  | succ d ih =>
    intro u h h1
    by_cases hu : u < 10
    · rw [Lib.decDigits_one hu]
      exact ⟨_, _, rfl, by rw [ofNat_toNat _ (by omega)]; omega⟩
    · have hs : Lib.decDigits u = Lib.decDigits (u / 10) ++ [UInt8.ofNat (48 + u % 10)] := by
        conv => lhs; rw [Lib.decDigits]
        rw [dif_neg hu]
      obtain ⟨c, l, e, hc⟩ := ih (u / 10) (by omega) (by omega)
      rw [hs, e]
      exact ⟨c, _, rfl, hc⟩
/-- the digits of a number below 10^w are at most w -/
theorem dec_len (w : Nat) : ∀ u, u < 10 ^ (w + 1) → (Lib.decDigits u).length ≤ w + 1 := by
  induction w with
  | zero => intro u h; rw [Lib.decDigits_one (by simpa using h)]; simp
  | succ w ih =>
    intro u h
    have hp : 10 ^ (w + 1 + 1) = 10 ^ (w + 1) * 10 := Nat.pow_succ ..
    by_cases hu : u < 10
    · rw [Lib.decDigits_one hu]; simp
    · have hs : Lib.decDigits u = Lib.decDigits (u / 10) ++ [UInt8.ofNat (48 + u % 10)] := by
        conv => lhs; rw [Lib.decDigits]
        rw [dif_neg hu]
      rw [hs, List.length_append, List.length_singleton]
      have := ih (u / 10) (by omega)
      omega
theorem itoa_of_nat (u : Nat) : Lib.itoa (u : Int) = Lib.decDigits u := by unfold Lib.itoa; rw [if_neg (by omega)]; simp
theorem itoa_of_neg (u : Nat) (h : 1 ≤ u) : Lib.itoa (-(u : Int)) = 45 :: Lib.decDigits u := by unfold Lib.itoa; rw [if_pos (by omega)]; simp
/-- what is told of a number of at most 18 digits is read again -/
theorem atoi_itoa (v : Int) (h0 : -1000000000000000000 < v) (h1 : v < 1000000000000000000) : Lib.atoiAll (Lib.itoa v) = .ok v := by
  by_cases hv : v < 0
  · obtain ⟨u, rfl⟩ : ∃ u : Nat, v = -(u : Int) := ⟨v.natAbs, by omega⟩
    rw [itoa_of_neg u (by omega), Lib.atoiAll_minus]
    obtain ⟨i1, i2, i3⟩ := dec_dig u u (Nat.le_refl u)
    have hp : Lib.parseMag (Lib.decDigits u) = .ok u := by
      unfold Lib.parseMag
      rw [if_neg i3, parse_ok _ 0 i1 (by rw [i2]; omega), i2]
    rw [hp]
    unfold Lib.signed
    simp only
    rw [if_neg (by omega)]
  · obtain ⟨u, rfl⟩ : ∃ u : Nat, v = (u : Int) := ⟨v.toNat, by omega⟩
    rw [itoa_of_nat u]
    obtain ⟨i1, i2, i3⟩ := dec_dig u u (Nat.le_refl u)
    have hp : Lib.parseMag (Lib.decDigits u) = .ok u := by
      unfold Lib.parseMag
      rw [if_neg i3, parse_ok _ 0 i1 (by rw [i2]; omega), i2]
    cases hd : Lib.decDigits u with
    | nil => exact absurd hd i3
    | cons c r =>
      rw [hd] at i1 hp
      have hc : 48 ≤ c.toNat := by rw [List.all_cons, Bool.and_eq_true] at i1; have := i1.1; simp [isDig] at this; omega
      rw [Lib.atoiAll_plain c r (by omega) (by omega), hp]
      unfold Lib.signless
      simp only
      rw [if_neg (by omega)]
theorem wrap_id (n : Int) (h0 : -9223372036854775808 ≤ n) (h1 : n ≤ 9223372036854775807) : wrap64 n = n := by
  unfold wrap64
  omega
/-- a list parted at each c -/
def pieces (c : UInt8) : List UInt8 → List (List UInt8)
  | [] => [[]]
  | b :: l => if b = c then [] :: pieces c l else match pieces c l with
    | p :: ps => (b :: p) :: ps
    | [] => [[b]]
theorem pieces_ne (c : UInt8) : ∀ l, pieces c l ≠ []
  | [] => by simp [pieces]
  | b :: l => by
    unfold pieces
    split
    · simp
    · split <;> simp
theorem pieces_len (c : UInt8) : ∀ l, (pieces c l).length ≤ l.length + 1
  | [] => by simp [pieces]
  | b :: l => by
    have ih := pieces_len c l
    unfold pieces
    split
    · simp only [List.length_cons]; omega
    · split
      · rename_i p ps h; rw [h] at ih; simp only [List.length_cons] at ih ⊢; omega
      · simp
theorem pieces_bytes (c : UInt8) : ∀ l, ∀ p ∈ pieces c l, p.length ≤ l.length
  | [], p, hp => by simp [pieces] at hp; simp [hp]
  | b :: l, p, hp => by
    have ih := pieces_bytes c l
    unfold pieces at hp
    split at hp
    · rcases List.mem_cons.1 hp with rfl | hp
      · simp
      · have := ih p hp; simp only [List.length_cons]; omega
    · split at hp
      · rename_i q qs h
        rw [h] at ih
        rcases List.mem_cons.1 hp with rfl | hp
        · have := ih q (by simp); simp only [List.length_cons]; omega
        · have := ih p (by simp [hp]); simp only [List.length_cons]; omega
      · simp at hp; subst hp; simp
theorem pieces_app (c : UInt8) (b : List UInt8) : ∀ a, c ∉ a → pieces c (a ++ c :: b) = a :: pieces c b
  | [], _ => by simp [pieces]
  | x :: a, h => by
    have hx : ¬ x = c := fun e => h (by simp [e])
    have ih := pieces_app c b a (fun e => h (by simp [e]))
    show pieces c (x :: (a ++ c :: b)) = _
    rw [pieces, if_neg hx, ih]
theorem pieces_none (c : UInt8) : ∀ a, c ∉ a → pieces c a = [a]
  | [], _ => rfl
  | x :: a, h => by
    have hx : ¬ x = c := fun e => h (by simp [e])
    have ih := pieces_none c a (fun e => h (by simp [e]))
    rw [pieces, if_neg hx, ih]
theorem index_one (c : UInt8) : ∀ l, (Lib.index l [c] = -1 ∧ c ∉ l) ∨ (∃ i : Nat, Lib.index l [c] = i ∧ i < l.length ∧ c ∉ l.take i ∧ l = l.take i ++ c :: l.drop (i + 1))
  | [] => .inl ⟨rfl, by simp⟩
  | b :: l => by
    unfold Lib.index
    by_cases hb : b = c
    · subst hb
      refine .inr ⟨0, ?_, by simp, by simp, by simp⟩
      rw [if_pos (by simp)]
      rfl
    · rw [if_neg (by simp [List.isPrefixOf]; exact fun e => hb e.symm)]
      rcases index_one c l with ⟨h1, h2⟩ | ⟨i, h1, h2, h3, h4⟩
      · refine .inl ⟨by rw [h1]; rfl, ?_⟩
        rintro h
        rcases List.mem_cons.1 h with e | h
        · exact hb e.symm
        · exact h2 h
      · refine .inr ⟨i + 1, ?_, by simp only [List.length_cons]; omega, ?_, ?_⟩
        · rw [h1, if_neg (by rw [beq_iff_eq]; omega)]
          rfl
        · rw [List.take_succ_cons]
          rintro h
          rcases List.mem_cons.1 h with e | h
          · exact hb e.symm
          · exact h3 h
        · rw [List.take_succ_cons, List.drop_succ_cons, List.cons_append, ← h4]
theorem extract_take (l : List UInt8) (i : Nat) : (⟨l.toArray⟩ : ByteArray).extract 0 i = ⟨(l.take i).toArray⟩ := by
  apply ByteArray.ext
  rw [ByteArray.data_extract]
  simp [List.extract]
theorem splitB_pieces (c : UInt8) : ∀ (m : Nat) (l : List UInt8),
    ((pieces c l).length ≤ m + 1 → Lib.splitB ⟨#[c]⟩ 0 m ⟨l.toArray⟩ = (pieces c l).map fun p => (⟨p.toArray⟩ : ByteArray)) ∧ (m + 1 < (pieces c l).length → (Lib.splitB ⟨#[c]⟩ 0 m ⟨l.toArray⟩).length = m + 1)
  | 0, l => by
    refine ⟨fun h => ?_, fun _ => rfl⟩
    rcases index_one c l with ⟨h1, h2⟩ | ⟨i, h1, h2, h3, h4⟩
    · rw [pieces_none c l h2]; rfl
    · rw [h4, pieces_app c _ _ h3] at h
      have := pieces_ne c (l.drop (i + 1))
      have : 0 < (pieces c (l.drop (i + 1))).length := List.length_pos_iff.2 this
      simp only [List.length_cons] at h
      omega
  | m + 1, l => by
    have hB : Lib.indexB (⟨l.toArray⟩ : ByteArray) ⟨#[c]⟩ = Lib.index l [c] := rfl
    rcases index_one c l with ⟨h1, h2⟩ | ⟨i, h1, h2, h3, h4⟩
    · rw [Lib.splitB_miss _ _ _ _ (by rw [hB, h1]), pieces_none c l h2]
      exact ⟨fun _ => rfl, fun h => by simp at h⟩
    · rw [Lib.splitB_hit _ _ _ _ i (by rw [hB, h1])]
      have ih := splitB_pieces c m (l.drop (i + 1))
      have e1 : (⟨l.toArray⟩ : ByteArray).extract 0 (i + 0) = ⟨(l.take i).toArray⟩ := extract_take l i
      have e2 : (⟨l.toArray⟩ : ByteArray).extract (i + (⟨#[c]⟩ : ByteArray).size) (⟨l.toArray⟩ : ByteArray).size = ⟨(l.drop (i + 1)).toArray⟩ := extract_mk l (i + 1)
      rw [e1, e2]
      have hp : pieces c l = l.take i :: pieces c (l.drop (i + 1)) := by
        conv => lhs; rw [h4]
        exact pieces_app c _ _ h3
      rw [hp]
      simp only [List.length_cons, List.map_cons]
      refine ⟨fun h => ?_, fun h => ?_⟩
      · rw [ih.1 (by omega)]
      · rw [ih.2 (by omega)]
theorem splitB_size (c : UInt8) : ∀ (m : Nat) (l : List UInt8), ∀ p ∈ Lib.splitB ⟨#[c]⟩ 0 m ⟨l.toArray⟩, p.size ≤ l.length
  | 0, l, p, hp => by
    rw [Lib.splitB_zero] at hp
    rw [List.mem_singleton.1 hp, size_mk]
    exact Nat.le_refl _
  | m + 1, l, p, hp => by
    have hB : Lib.indexB (⟨l.toArray⟩ : ByteArray) ⟨#[c]⟩ = Lib.index l [c] := rfl
    rcases index_one c l with ⟨h1, h2⟩ | ⟨i, h1, h2, h3, h4⟩
    · rw [Lib.splitB_miss _ _ _ _ (by rw [hB, h1])] at hp
      rw [List.mem_singleton.1 hp, size_mk]
      exact Nat.le_refl _
    · rw [Lib.splitB_hit _ _ _ _ i (by rw [hB, h1])] at hp
      have e1 : (⟨l.toArray⟩ : ByteArray).extract 0 (i + 0) = ⟨(l.take i).toArray⟩ := extract_take l i
      have e2 : (⟨l.toArray⟩ : ByteArray).extract (i + (⟨#[c]⟩ : ByteArray).size) (⟨l.toArray⟩ : ByteArray).size = ⟨(l.drop (i + 1)).toArray⟩ := extract_mk l (i + 1)
      rw [e1, e2] at hp
      rcases List.mem_cons.1 hp with rfl | hp
      · rw [size_mk, List.length_take]; omega
      · have := splitB_size c m _ p hp
        rw [List.length_drop] at this
        omega
def mkP (l : List (List UInt8)) : List ByteArray := l.map fun p => (⟨p.toArray⟩ : ByteArray)
def joinH (p : List UInt8) : List (List UInt8) → List (List UInt8)
  | q :: qs => (p ++ q) :: qs
  | [] => [p]
theorem extract_mid (l : List UInt8) (i j : Nat) : (⟨l.toArray⟩ : ByteArray).extract i j = ⟨((l.drop i).take (j - i)).toArray⟩ := by
  apply ByteArray.ext
  rw [ByteArray.data_extract]
  simp [List.extract, List.take_drop]
theorem cut_loop (c : UInt8) (l : List UInt8) (hl : l.length ≤ 1048576) (d : Nat) : ∀ (k i f : Nat) (out : List ByteArray), i ≤ l.length → f ≤ i → out.length ≤ i → l.length - i = d → d < k →
    spec_l00Cut.l0 k ⟨l.toArray⟩ ((c.toNat : Nat) : Int) out (f : Int) (i : Int) = some (out ++ mkP (joinH ((l.drop f).take (i - f)) (pieces c (l.drop i)))) := by
  induction d with
  | zero =>
    intro k i f out hi hf ho hd hk
    obtain ⟨k, rfl⟩ : ∃ m, k = m + 1 := ⟨k - 1, by omega⟩
    obtain rfl : i = l.length := by omega
    simp only [spec_l00Cut.l0]
    rw [if_neg (by rw [size_mk]; omega), if_pos (by omega), if_pos (by rw [size_mk]; omega), if_pos (by omega), List.drop_length, Int.toNat_natCast, extract_mk]
    simp [pieces, joinH, mkP, List.take_of_length_le]
  | succ d ih =>
    intro k i f out hi hf ho hd hk
    obtain ⟨k, rfl⟩ : ∃ m, k = m + 1 := ⟨k - 1, by omega⟩
    have hlt : i < l.length := by omega
    have hb := bt_mk l i hlt
    have hdr := List.drop_eq_getElem_cons hlt
    have hw : wrap64 ((i : Int) + 1) = ((i + 1 : Nat) : Int) := by unfold wrap64; omega
    simp only [spec_l00Cut.l0]
    rw [if_pos (by rw [size_mk]; omega), if_pos (by omega), hb, hdr, hw]
    by_cases hc : l[i] = c
    · rw [if_pos (by rw [hc]), if_pos (by omega), if_pos (by omega), if_pos (by rw [size_mk]; omega), if_pos (by omega), Int.toNat_natCast, Int.toNat_natCast, extract_mid,
        ih k (i + 1) (i + 1) _ (by omega) (by omega) (by rw [List.length_append, List.length_singleton]; omega) (by omega) (by omega)]
      rw [pieces, if_pos hc, Nat.sub_self, List.take_zero]
      cases hp : pieces c (l.drop (i + 1)) with
      | nil => exact absurd hp (pieces_ne c _)
      | cons p ps => simp [joinH, mkP]
    · have hn : ¬ ((l[i].toNat : Nat) : Int) = ((c.toNat : Nat) : Int) := fun e => hc (UInt8.toNat_inj.1 (by omega))
      rw [if_neg hn, ih k (i + 1) f out (by omega) (by omega) (by omega) (by omega) (by omega)]
      rw [pieces, if_neg hc]
      have ht : (l.drop f).take (i + 1 - f) = (l.drop f).take (i - f) ++ [l[i]] := by
        rw [show i + 1 - f = (i - f) + 1 by omega, List.take_succ_eq_append_getElem (by rw [List.length_drop]; omega)]
        congr 2
        rw [List.getElem_drop]
        congr 1
        omega
      rw [ht]
      cases hp : pieces c (l.drop (i + 1)) with
      | nil => exact absurd hp (pieces_ne c _)
      | cons p ps => simp [joinH, mkP]
theorem cut_eq (s : ByteArray) (c : UInt8) (hs : s.size ≤ 1048576) (k : Nat) (hk : s.size < k) : spec_l00Cut.f k s ((c.toNat : Nat) : Int) = some (mkP (pieces c s.data.toList)) := by
  unfold spec_l00Cut.f
  have hsz : s.size = s.data.toList.length := by rw [Array.length_toList]; rfl
  have h := cut_loop c s.data.toList (by omega) s.data.toList.length k 0 0 [] (by omega) (by omega) (by simp) (by omega) (by omega)
  rw [mk_data] at h
  rw [show ((0 : Nat) : Int) = 0 from rfl] at h
  rw [h, List.drop_zero, Nat.sub_self, List.take_zero]
  cases hp : pieces c s.data.toList with
  | nil => exact absurd hp (pieces_ne c _)
  | cons p ps => simp [joinH]
def isKey (s : ByteArray) (a b c : Int) : Prop := (0 ≤ a ∧ a ≤ 2) ∧ (0 ≤ b ∧ b ≤ 999999) ∧ (0 ≤ c ∧ c ≤ 999999) ∧ s = keyB a b c
theorem keyok_eq (a b c : Int) : ∃ r, spec_l03KeyOK.f a b c = some r ∧ (r = true ↔ (0 ≤ a ∧ a ≤ 2) ∧ (0 ≤ b ∧ b ≤ 999999) ∧ (0 ≤ c ∧ c ≤ 999999)) := by
  unfold spec_l03KeyOK.f
  simp only [in_eq, Option.bind_some]
  by_cases h1 : 0 ≤ a ∧ a ≤ 2
  · have e1 : (decide (0 ≤ a) && decide (a ≤ 2)) = true := by simp [h1]
    rw [e1, if_pos rfl]
    by_cases h2 : 0 ≤ b ∧ b ≤ 999999
    · have e2 : (decide (0 ≤ b) && decide (b ≤ 999999)) = true := by simp [h2]
      rw [e2, if_pos rfl]
      exact ⟨_, rfl, by rw [Bool.and_eq_true, decide_eq_true_eq, decide_eq_true_eq]; exact ⟨fun h => ⟨h1, h2, h⟩, fun h => h.2.2⟩⟩
    · have e2 : (decide (0 ≤ b) && decide (b ≤ 999999)) = false := by
        rw [Bool.and_eq_false_iff, decide_eq_false_iff_not, decide_eq_false_iff_not]; omega
      rw [e2]
      exact ⟨false, by simp, by simp; intro _ _ h3 h4; exact absurd ⟨h3, h4⟩ h2⟩
  · have e1 : (decide (0 ≤ a) && decide (a ≤ 2)) = false := by
      rw [Bool.and_eq_false_iff, decide_eq_false_iff_not, decide_eq_false_iff_not]; omega
    rw [e1]
    exact ⟨false, by simp, by simp; intro h3 h4; exact absurd ⟨h3, h4⟩ h1⟩
theorem fw_dig : ∀ w u, (fw w u).all isDig = true ∧ dval 0 (fw w u) = u % 10 ^ w
  | 0, u => ⟨rfl, by simp [fw, dval, Nat.mod_one]⟩
  | w + 1, u => by
    obtain ⟨i1, i2⟩ := fw_dig w (u / 10)
    have e := ofNat_toNat (48 + u % 10) (by omega)
    rw [fw]
    refine ⟨?_, ?_⟩
    · rw [List.all_append, i1]
      simp only [List.all_cons, List.all_nil, Bool.and_true, isDig, e, Bool.true_and]
      simp
      omega
    · rw [dval_append, i2, e, Nat.pow_succ, Nat.mul_comm (10 ^ w) 10, Nat.mod_mul]
      omega
theorem fw_not (x : UInt8) (hx : isDig x = false) (w u : Nat) : x ∉ fw w u := fun h => by
  have := List.all_eq_true.1 (fw_dig w u).1 x h
  rw [hx] at this
  cases this
theorem digit_eq (c : UInt8) : spec_l00Digit.f ((c.toNat : Nat) : Int) = some (isDig c) := by
  unfold spec_l00Digit.f isDig
  by_cases h : ((c.toNat : Nat) : Int) ≥ 48
  · rw [if_pos h, show decide (48 ≤ c.toNat) = true from decide_eq_true (by omega), Bool.true_and]
    congr 1
    by_cases h2 : c.toNat ≤ 57
    · rw [decide_eq_true (by omega), decide_eq_true h2]
    · rw [decide_eq_false (by omega), decide_eq_false h2]
  · rw [if_neg h, show decide (48 ≤ c.toNat) = false from decide_eq_false (by omega), Bool.false_and]
theorem fixed_total (l : List UInt8) (hl : l.length ≤ 1048576) (d : Nat) : ∀ (k i : Nat) (x : Int), i ≤ l.length → l.length - i = d → d < k → ∃ n b, spec_l03Fixed.l0 k ⟨l.toArray⟩ x (i : Int) = some (n, b) := by
  induction d with
  | zero =>
    intro k i x hi hd hk
    obtain ⟨k, rfl⟩ : ∃ m, k = m + 1 := ⟨k - 1, by omega⟩
    simp only [spec_l03Fixed.l0]
    rw [if_neg (by rw [size_mk]; omega)]
    exact ⟨_, _, rfl⟩
  | succ d ih =>
    intro k i x hi hd hk
    obtain ⟨k, rfl⟩ : ∃ m, k = m + 1 := ⟨k - 1, by omega⟩
    have hlt : i < l.length := by omega
    have hw : wrap64 ((i : Int) + 1) = ((i + 1 : Nat) : Int) := by unfold wrap64; omega
    simp only [spec_l03Fixed.l0]
    rw [if_pos (by rw [size_mk]; omega), if_pos (by omega), bt_mk l i hlt, digit_eq, hw]
    simp only [Option.bind_some]
    cases isDig l[i] with
    | false => exact ⟨0, false, by simp⟩
    | true => simp only [if_true]; exact ih k (i + 1) _ (by omega) (by omega) (by omega)
theorem fixed_six (l : List UInt8) (hl : l.length ≤ 6) (ha : l.all isDig = true) (d : Nat) : ∀ (k i a : Nat), i ≤ l.length → l.length - i = d → d < k → a < 10 ^ i → spec_l03Fixed.l0 k ⟨l.toArray⟩ (a : Int) (i : Int) = some ((dval a (l.drop i) : Int), true) := by
  induction d with
  | zero =>
    intro k i a hi hd hk _
    obtain ⟨k, rfl⟩ : ∃ m, k = m + 1 := ⟨k - 1, by omega⟩
    simp only [spec_l03Fixed.l0]
    rw [if_neg (by rw [size_mk]; omega), List.drop_of_length_le (by omega)]
    rfl
  | succ d ih =>
    intro k i a hi hd hk ha2
    obtain ⟨k, rfl⟩ : ∃ m, k = m + 1 := ⟨k - 1, by omega⟩
    have hlt : i < l.length := by omega
    have hp : 10 ^ i ≤ 100000 := by have := Nat.pow_le_pow_right (n := 10) (by decide) (show i ≤ 5 by omega); simpa using this
    have hps : 10 ^ (i + 1) = 10 ^ i * 10 := Nat.pow_succ ..
    have hdr := List.drop_eq_getElem_cons hlt
    have hc : isDig l[i] = true := List.all_eq_true.1 ha _ (List.getElem_mem hlt)
    simp only [spec_l03Fixed.l0]
    rw [if_pos (by rw [size_mk]; omega), if_pos (by omega), bt_mk l i hlt, digit_eq, hdr]
    generalize l[i] = c at hc ⊢
    have hc1 : 48 ≤ c.toNat ∧ c.toNat ≤ 57 := by simp [isDig] at hc; omega
    rw [hc]
    simp only [Option.bind_some, if_true]
    have hx : a * 10 + (c.toNat - 48) < 10 ^ (i + 1) := by rw [hps]; omega
    have ih' := ih k (i + 1) (a * 10 + (c.toNat - 48)) (by omega) (by omega) (by omega) hx
    have a5 : a < 100000 := by omega
    clear ih hx hps hp ha2
    have e1 : wrap64 ((wrap64 (10 * (a : Int))) + ((((c.toNat : Nat) : Int) - 48) % 256)) = ((a * 10 + (c.toNat - 48) : Nat) : Int) := by
      clear ih'
      rw [wrap_id (10 * (a : Int)) (by omega) (by omega), wrap_id (10 * (a : Int) + ((((c.toNat : Nat) : Int) - 48) % 256)) (by omega) (by omega)]
      omega
    have e2 : wrap64 ((i : Int) + 1) = ((i + 1 : Nat) : Int) := by clear e1; rw [wrap_id ((i : Int) + 1) (by omega) (by omega)]; omega
    rw [e1, e2, ih', dval_cons]
theorem fixed_fw (u : Nat) (hu : u < 1000000) (k : Nat) (hk : 7 ≤ k) : spec_l03Fixed.f k ⟨(fw 6 u).toArray⟩ = some ((u : Int), true) := by
  obtain ⟨h1, h2⟩ := fw_dig 6 u
  have h := fixed_six (fw 6 u) (by rw [fw_length]; omega) h1 6 k 0 0 (by omega) (by rw [fw_length]) (by omega) (by simp)
  rw [show ((0 : Nat) : Int) = 0 from rfl, List.drop_zero, h2, Nat.mod_eq_of_lt (by simpa using hu)] at h
  exact h
def preB (a : Int) : List UInt8 := if a = 0 then [114, 97, 119] else if a = 1 then [116, 49] else [116, 50]
theorem pre3_eq (a : Int) : pre3 a = preB a ++ [47] := by
  unfold pre3 preB
  split
  · rfl
  · split <;> rfl
theorem key_pieces (a b c : Int) : pieces 47 (keyB a b c).data.toList = [preB a, fw 6 b.toNat ++ [45] ++ fw 6 c.toNat] := by
  have e : (keyB a b c).data.toList = preB a ++ 47 :: (fw 6 b.toNat ++ [45] ++ fw 6 c.toNat) := by
    show pre3 a ++ fw 6 b.toNat ++ [45] ++ fw 6 c.toNat = _
    rw [pre3_eq]
    simp
  have h1 : (47 : UInt8) ∉ preB a := by
    unfold preB
    split
    · decide
    · split <;> decide
  have h2 : (47 : UInt8) ∉ fw 6 b.toNat ++ [45] ++ fw 6 c.toNat := by
    simp only [List.mem_append, List.mem_singleton, not_or]
    exact ⟨⟨fw_not 47 rfl _ _, by decide⟩, fw_not 47 rfl _ _⟩
  rw [e, pieces_app 47 _ _ h1, pieces_none 47 _ h2]
theorem extract_six (l : List UInt8) : (⟨l.toArray⟩ : ByteArray).extract 0 6 = ⟨(l.take 6).toArray⟩ := extract_take l 6
theorem spec_key_at (s : ByteArray) (x y : List UInt8) (hs : s.size ≤ 1048576) (hp : pieces 47 s.data.toList = [x, y]) (h13 : y.length = 13) (h6 : y[6]'(by omega) = 45) (k : Nat) (hk : s.size + 40 < k) (n1 n2 : Int) (b1 b2 : Bool)
    (e1 : spec_l03Fixed.f k ⟨(y.take 6).toArray⟩ = some (n1, b1)) (e2 : spec_l03Fixed.f k ⟨(y.drop 7).toArray⟩ = some (n2, b2)) : ∃ t : Int, t = (if x = [116, 49] then 1 else if x = [116, 50] then 2 else 0) ∧
    spec_l03ToKey.f (k + 1) s = (if b1 = true then if b2 = true then if ((0 ≤ t ∧ t ≤ 2) ∧ (0 ≤ n1 ∧ n1 ≤ 999999) ∧ (0 ≤ n2 ∧ n2 ≤ 999999)) ∧ s = keyB t n1 n2 then some (t, n1, n2, true) else some (0, 0, 0, false) else some (0, 0, 0, false) else some (0, 0, 0, false)) := by
  refine ⟨_, rfl, ?_⟩
  unfold spec_l03ToKey.f
  have hc := cut_eq s 47 hs (k + 1) (by omega)
  have hc2 : (((47 : UInt8).toNat : Nat) : Int) = 47 := rfl
  rw [hc2] at hc
  rw [hc, hp]
  simp only [Option.bind_some]
  have g0 : rdOf ByteArray.empty (mkP [x, y]) 0 = ⟨x.toArray⟩ := rfl
  have g1 : rdOf ByteArray.empty (mkP [x, y]) 1 = ⟨y.toArray⟩ := rfl
  have gl : ((mkP [x, y]).length : Int) = 2 := rfl
  have gs : ((⟨y.toArray⟩ : ByteArray).size : Int) = 13 := by rw [size_mk, h13]; rfl
  have gb : bt ⟨y.toArray⟩ 6 = 45 := by
    have := bt_mk y 6 (by omega)
    rw [show ((6 : Nat) : Int) = 6 from rfl] at this
    rw [this, h6]; rfl
  rw [gl, g1, gs, gb, if_pos (by decide), if_pos (by decide), if_pos (by decide), if_pos (by decide)]
  simp only [spec_l03ToKey.j0, gl, g0, g1, gs]
  rw [if_neg (by decide), if_pos (by decide)]
  have hx1 : spec_l01Bit.f ((⟨x.toArray⟩ : ByteArray).toList == ([116, 49] : List UInt8)) = some (if x = [116, 49] then 1 else 0) := by
    unfold spec_l01Bit.f
    rw [ByteArray.toList_mk]
    by_cases h : x = [116, 49] <;> simp [h]
  have hx2 : spec_l01Bit.f ((⟨x.toArray⟩ : ByteArray).toList == ([116, 50] : List UInt8)) = some (if x = [116, 50] then 1 else 0) := by
    unfold spec_l01Bit.f
    rw [ByteArray.toList_mk]
    by_cases h : x = [116, 50] <;> simp [h]
  have ex7 : (⟨y.toArray⟩ : ByteArray).extract 7 (⟨y.toArray⟩ : ByteArray).size = ⟨(y.drop 7).toArray⟩ := extract_mk y 7
  rw [hx1, hx2, extract_six, ex7]
  simp only [Option.bind_some]
  rw [if_pos (by decide), if_pos (by decide), if_pos (by decide), e1]
  simp only [Option.bind_some]
  rw [if_pos (by decide), e2]
  simp only [Option.bind_some]
  have ht : wrap64 ((if x = [116, 49] then (1 : Int) else 0) + wrap64 (2 * (if x = [116, 50] then (1 : Int) else 0))) = (if x = [116, 49] then 1 else if x = [116, 50] then 2 else 0) := by
    by_cases h1 : x = [116, 49]
    · subst h1; rw [if_pos rfl, if_neg (by decide), if_pos rfl]; unfold wrap64; omega
    · rw [if_neg h1, if_neg h1]
      by_cases h2 : x = [116, 50]
      · rw [if_pos h2, if_pos h2]; unfold wrap64; omega
      · rw [if_neg h2, if_neg h2]; unfold wrap64; omega
  rw [ht]
  generalize (if x = [116, 49] then (1 : Int) else if x = [116, 50] then 2 else 0) = t
  cases b1 with
  | false => simp
  | true =>
    cases b2 with
    | false => simp
    | true =>
      simp only [if_true]
      obtain ⟨r, k1, k2⟩ := keyok_eq t n1 n2
      rw [k1]
      simp only [Option.bind_some]
      cases r with
      | false =>
        have : ¬ ((0 ≤ t ∧ t ≤ 2) ∧ (0 ≤ n1 ∧ n1 ≤ 999999) ∧ (0 ≤ n2 ∧ n2 ≤ 999999)) := fun h => by have := k2.2 h; cases this
        simp only [Bool.false_eq_true, if_false]
        rw [if_neg (fun h => this h.1)]
      | true =>
        have hr := k2.1 rfl
        simp only [if_true]
        rw [key_spec t n1 n2 hr.1 hr.2.1 hr.2.2 k (by omega)]
        simp only [Option.bind_some]
        by_cases he : (keyB t n1 n2).toList = s.toList
        · have hs2 : s = keyB t n1 n2 := by
            rw [ByteArray.toList_eq, ByteArray.toList_eq] at he
            rw [← mk_data s, ← he, mk_data]
          rw [if_pos he, if_pos ⟨hr, hs2⟩]
        · rw [if_neg he, if_neg (fun h => he (by rw [← h.2]))]
theorem spec_key_none (s : ByteArray) (hs : s.size ≤ 1048576) (k : Nat) (hk : s.size + 40 < k) (h : ∀ x y : List UInt8, pieces 47 s.data.toList = [x, y] → ∀ h13 : y.length = 13, y[6]'(by omega) ≠ 45) : spec_l03ToKey.f (k + 1) s = some (0, 0, 0, false) := by
  unfold spec_l03ToKey.f
  have hc := cut_eq s 47 hs (k + 1) (by omega)
  have hc2 : (((47 : UInt8).toNat : Nat) : Int) = 47 := rfl
  rw [hc2] at hc
  rw [hc]
  simp only [Option.bind_some]
  have hj : ∀ L, spec_l03ToKey.j0 (k + 1) s L true = some (0, 0, 0, false) := fun L => by simp only [spec_l03ToKey.j0]; rw [if_pos trivial]
  by_cases h2 : (pieces 47 s.data.toList).length = 2
  · obtain ⟨x, y, hp⟩ : ∃ x y, pieces 47 s.data.toList = [x, y] := by
      match hq : pieces 47 s.data.toList with
      | [x, y] => exact ⟨x, y, rfl⟩
      | [] => rw [hq] at h2; simp at h2
      | [_] => rw [hq] at h2; simp at h2
      | _ :: _ :: _ :: _ => rw [hq] at h2; simp at h2
    rw [hp]
    have g1 : rdOf ByteArray.empty (mkP [x, y]) 1 = ⟨y.toArray⟩ := rfl
    have gl : ((mkP [x, y]).length : Int) = 2 := rfl
    rw [gl, g1, if_pos rfl, if_pos (by decide), size_mk]
    by_cases h13 : y.length = 13
    · rw [if_pos (by omega), if_pos (by omega)]
      have hb := bt_mk y 6 (by omega)
      rw [show ((6 : Nat) : Int) = 6 from rfl] at hb
      have hn := h x y hp h13
      have : (bt ⟨y.toArray⟩ 6 != 45) = true := by
        rw [hb, bne_iff_ne]
        intro e
        apply hn
        apply UInt8.toNat_inj.1
        show _ = 45
        omega
      rw [this, hj]
    · rw [if_neg (by omega), hj]
  · have gl : ((mkP (pieces 47 s.data.toList)).length : Int) = ((pieces 47 s.data.toList).length : Int) := by unfold mkP; rw [List.length_map]
    rw [gl, if_neg (by omega), hj]
theorem spec_key_T (s : ByteArray) (hs : s.size ≤ 1048576) (k : Nat) (hk : s.size + 40 < k) : ∃ a b c q, spec_l03ToKey.f (k + 1) s = some (a, b, c, q) ∧ (q = true → isKey s a b c) := by
  by_cases h : ∀ x y : List UInt8, pieces 47 s.data.toList = [x, y] → ∀ h13 : y.length = 13, y[6]'(by omega) ≠ 45
  · exact ⟨0, 0, 0, false, spec_key_none s hs k hk h, by simp⟩
  · simp only [Classical.not_forall, Classical.not_not] at h
    obtain ⟨x, y, hp, h13, h6⟩ := h
    obtain ⟨n1, b1, e1⟩ := fixed_total (y.take 6) (by rw [List.length_take]; omega) (y.take 6).length k 0 0 (by omega) (by omega) (by rw [List.length_take]; omega)
    obtain ⟨n2, b2, e2⟩ := fixed_total (y.drop 7) (by rw [List.length_drop]; omega) (y.drop 7).length k 0 0 (by omega) (by omega) (by rw [List.length_drop]; omega)
    obtain ⟨t, _, ht⟩ := spec_key_at s x y hs hp h13 h6 k hk n1 n2 b1 b2 e1 e2
    rw [ht]
    split
    · split
      · split
        · rename_i hr
          exact ⟨_, _, _, _, rfl, fun _ => ⟨hr.1.1, hr.1.2.1, hr.1.2.2, hr.2⟩⟩
        · exact ⟨_, _, _, _, rfl, by simp⟩
      · exact ⟨_, _, _, _, rfl, by simp⟩
    · exact ⟨_, _, _, _, rfl, by simp⟩
theorem keyB_size (a b c : Int) : (keyB a b c).size ≤ 17 := by
  show ((pre3 a ++ fw 6 b.toNat ++ [45] ++ fw 6 c.toNat).toArray).size ≤ 17
  rw [List.size_toArray]
  simp only [List.length_append, fw_length, List.length_singleton]
  have : (pre3 a).length ≤ 4 := by
    unfold pre3
    split
    · decide
    · split <;> decide
  omega
theorem spec_key_C (a b c : Int) (h1 : 0 ≤ a ∧ a ≤ 2) (h2 : 0 ≤ b ∧ b ≤ 999999) (h3 : 0 ≤ c ∧ c ≤ 999999) (k : Nat) (hk : 60 < k) : spec_l03ToKey.f (k + 1) (keyB a b c) = some (a, b, c, true) := by
  have hsz := keyB_size a b c
  have hp := key_pieces a b c
  have t6 : (fw 6 b.toNat ++ [45] ++ fw 6 c.toNat).take 6 = fw 6 b.toNat := by
    rw [List.append_assoc, List.take_left' (fw_length 6 _)]
  have d7 : (fw 6 b.toNat ++ [45] ++ fw 6 c.toNat).drop 7 = fw 6 c.toNat := List.drop_left' (by simp [fw_length])
  obtain ⟨t, ht, hk2⟩ := spec_key_at (keyB a b c) _ _ (by omega) hp (by simp [fw_length]) (by rw [List.getElem_append_left (by simp [fw_length]), List.getElem_append_right (by simp [fw_length])]; simp [fw_length]) k (by omega) b c true true
    (by rw [t6, fixed_fw b.toNat (by omega) k (by omega)]; congr 1; rw [Int.toNat_of_nonneg h2.1]) (by rw [d7, fixed_fw c.toNat (by omega) k (by omega)]; congr 1; rw [Int.toNat_of_nonneg h3.1])
  have hta : t = a := by
    rw [ht]
    have : a = 0 ∨ a = 1 ∨ a = 2 := by omega
    rcases this with rfl | rfl | rfl <;> rfl
  rw [hk2, hta]
  simp only [if_true]
  rw [if_pos ⟨⟨h1, h2, h3⟩, trivial⟩]
theorem readSix_T (s : ByteArray) (hs : s.size ≤ 1048576) : ∃ n q, impl_readSix.f s = some (n, q) ∧ (q = true → (0 ≤ n ∧ n ≤ 999999) ∧ s = s6 n) := by
  unfold impl_readSix.f
  rw [if_pos (by omega)]
  split
  · rename_i v _
    split
    · rename_i hv
      rw [six_eq v hv.1 hv.2]
      simp only [Option.bind_some]
      refine ⟨v, _, rfl, fun h => ⟨hv, ?_⟩⟩
      have h := beq_iff_eq.1 h
      rw [ByteArray.toList_eq, ByteArray.toList_eq] at h
      rw [← mk_data s, ← h, mk_data]
    · exact ⟨_, _, rfl, by simp⟩
  · exact ⟨_, _, rfl, by simp⟩
  · exact ⟨_, _, rfl, by simp⟩
theorem readSix_C (n : Int) (h0 : 0 ≤ n) (h1 : n ≤ 999999) : impl_readSix.f (s6 n) = some (n, true) := by
  unfold impl_readSix.f
  have hz := s6_size n
  rw [if_pos (by omega)]
  have ha : Lib.atoiAll (s6 n).data.toList = .ok n := by
    show Lib.atoiAll (fw 6 n.toNat) = _
    obtain ⟨i1, i2⟩ := fw_dig 6 n.toNat
    have hlt : n.toNat < 1000000 := by omega
    rw [Nat.mod_eq_of_lt (by simpa using hlt)] at i2
    have hl := fw_length 6 n.toNat
    cases hd : fw 6 n.toNat with
    | nil => rw [hd] at hl; simp at hl
    | cons c r =>
      rw [hd] at i1 i2
      have hc : 48 ≤ c.toNat := by rw [List.all_cons, Bool.and_eq_true] at i1; have := i1.1; simp [isDig] at this; omega
      have hp : Lib.parseMag (c :: r) = .ok n.toNat := by
        unfold Lib.parseMag
        rw [if_neg (by simp), parse_ok _ 0 i1 (by rw [i2]; omega), i2]
      rw [Lib.atoiAll_plain c r (by omega) (by omega), hp]
      unfold Lib.signless
      simp only
      rw [if_neg (by omega), Int.toNat_of_nonneg h0]
  rw [ha]
  simp only
  rw [if_pos ⟨h0, h1⟩, six_eq n h0 h1]
  simp
def pres : List ByteArray := [(⟨#[114, 97, 119, 47]⟩ : ByteArray), (⟨#[116, 49, 47]⟩ : ByteArray), (⟨#[116, 50, 47]⟩ : ByteArray)]
theorem pres_at (a : Int) (h : 0 ≤ a ∧ a ≤ 2) : rdOf ByteArray.empty pres a = ⟨(pre3 a).toArray⟩ := by
  have : a = 0 ∨ a = 1 ∨ a = 2 := by omega
  rcases this with rfl | rfl | rfl <;> rfl
theorem impl_key_step (s : ByteArray) (hs : s.size ≤ 1048576) (i : Int) (hi : 0 ≤ i ∧ i ≤ 2) (k : Nat) :
    (∃ b c, impl_readDataKey.l0 (k + 2) s pres 3 i = some (i, b, c, true) ∧ isKey s i b c) ∨ (impl_readDataKey.l0 (k + 2) s pres 3 i = impl_readDataKey.l0 k s pres 3 (i + 1) ∧ ∀ b c, ¬ isKey s i b c) := by
  have hw : wrap64 (i + 1) = i + 1 := by rw [wrap_id (i + 1) (by omega) (by omega)]
  have hl3 : ((pres.length : Nat) : Int) = 3 := rfl
  simp only [impl_readDataKey.l0]
  rw [if_pos (by omega), if_pos (by omega), hl3, if_pos (by omega), pres_at i hi]
  unfold strings_CutPrefix.f
  simp only [Option.bind_some]
  have hkd : ∀ b c, (keyB i b c).data.toList = pre3 i ++ (fw 6 b.toNat ++ [45] ++ fw 6 c.toNat) := fun b c => by
    show pre3 i ++ fw 6 b.toNat ++ [45] ++ fw 6 c.toNat = _
    simp
  have hpre : ∀ r, Lib.hasPrefix (pre3 i ++ r) (pre3 i) = true ∧ Lib.trimPrefix (pre3 i ++ r) (pre3 i) = r := fun r => by
    have h1 : Lib.hasPrefix (pre3 i ++ r) (pre3 i) = true := by unfold Lib.hasPrefix; rw [List.isPrefixOf_iff_prefix]; exact List.prefix_append _ _
    refine ⟨h1, ?_⟩
    unfold Lib.trimPrefix
    rw [if_pos h1, List.drop_left' rfl]
  by_cases hp : Lib.hasPrefix s.data.toList (pre3 i) = true
  · obtain ⟨r, hr⟩ : ∃ r, s.data.toList = pre3 i ++ r := by
      unfold Lib.hasPrefix at hp
      rw [List.isPrefixOf_iff_prefix] at hp
      obtain ⟨r, hr⟩ := hp
      exact ⟨r, hr.symm⟩
    rw [hr, (hpre r).1, (hpre r).2, if_pos rfl, size_mk]
    have hrl : r.length ≤ 1048576 := by
      have : s.size = s.data.toList.length := by rw [Array.length_toList]; rfl
      rw [hr, List.length_append] at this
      omega
    have hno : ∀ q : Bool, (∀ b c, ¬ isKey s i b c) → q = false → impl_readDataKey.j1 (k + 1) s i ⟨r.toArray⟩ pres 3 i q = impl_readDataKey.l0 k s pres 3 (i + 1) := fun q _ hq => by
      subst hq
      simp only [impl_readDataKey.j1]
      rw [if_neg (by simp), hw]
    by_cases h13 : r.length = 13
    · rw [if_pos (by omega), if_pos (by omega)]
      have hb := bt_mk r 6 (by omega)
      rw [show ((6 : Nat) : Int) = 6 from rfl] at hb
      rw [hb]
      by_cases h6 : r[6]'(by omega) = 45
      · have : ((((r[6]'(by omega)).toNat : Nat) : Int) == 45) = true := by rw [h6]; rfl
        rw [this]
        simp only [impl_readDataKey.j1]
        have ex7 : (⟨r.toArray⟩ : ByteArray).extract 7 (⟨r.toArray⟩ : ByteArray).size = ⟨(r.drop 7).toArray⟩ := extract_mk r 7
        rw [if_pos trivial, if_pos (by decide), if_pos (by rw [size_mk]; omega), extract_six, ex7]
        obtain ⟨n1, q1, f1, g1⟩ := readSix_T ⟨(r.take 6).toArray⟩ (by rw [size_mk, List.length_take]; omega)
        obtain ⟨n2, q2, f2, g2⟩ := readSix_T ⟨(r.drop 7).toArray⟩ (by rw [size_mk, List.length_drop]; omega)
        rw [f1]
        simp only [Option.bind_some]
        rw [if_pos (by rw [size_mk]; omega), f2]
        simp only [Option.bind_some]
        have hback : ∀ b c, isKey s i b c → q1 = true ∧ q2 = true := fun b c hk => by
          obtain ⟨_, hb2, hc2, hs2⟩ := hk
          have hrr : r = fw 6 b.toNat ++ [45] ++ fw 6 c.toNat := by
            have := hkd b c
            rw [← hs2, hr] at this
            exact List.append_cancel_left this
          have t6 : r.take 6 = fw 6 b.toNat := by rw [hrr, List.append_assoc, List.take_left' (fw_length 6 _)]
          have d7 : r.drop 7 = fw 6 c.toNat := by rw [hrr]; exact List.drop_left' (by simp [fw_length])
          have c1 := readSix_C b hb2.1 hb2.2
          have c2 := readSix_C c hc2.1 hc2.2
          unfold s6 at c1 c2
          rw [t6, c1] at f1
          rw [d7, c2] at f2
          obtain ⟨_, e1⟩ := Prod.mk.inj (Option.some.inj f1)
          obtain ⟨_, e2⟩ := Prod.mk.inj (Option.some.inj f2)
          exact ⟨e1.symm, e2.symm⟩
        cases q1 with
        | false => exact .inr ⟨by simp [hw], fun b c hk => by have := (hback b c hk).1; cases this⟩
        | true =>
          cases q2 with
          | false => exact .inr ⟨by simp [hw], fun b c hk => by have := (hback b c hk).2; cases this⟩
          | true =>
            refine .inl ⟨n1, n2, by simp, hi, (g1 rfl).1, (g2 rfl).1, ?_⟩
            have e1 : r.take 6 = fw 6 n1.toNat := by
              have := congrArg (fun b : ByteArray => b.data.toList) (g1 rfl).2
              simpa [s6] using this
            have e2 : r.drop 7 = fw 6 n2.toNat := by
              have := congrArg (fun b : ByteArray => b.data.toList) (g2 rfl).2
              simpa [s6] using this
            have hrr : r = fw 6 n1.toNat ++ [45] ++ fw 6 n2.toNat := by
              rw [← e1, ← e2, ← h6]
              have hd := List.drop_eq_getElem_cons (show 6 < r.length by omega)
              rw [List.append_assoc, List.singleton_append, ← hd, List.take_append_drop]
            rw [← mk_data s, hr, hrr, ← hkd n1 n2, mk_data]
      · have hq : ((((r[6]'(by omega)).toNat : Nat) : Int) == 45) = false := by
          rw [beq_eq_false_iff_ne]
          intro e
          apply h6
          apply UInt8.toNat_inj.1
          show _ = 45
          omega
        have hn : ∀ b c, ¬ isKey s i b c := fun b c hk => by
          apply h6
          have hrr : r = fw 6 b.toNat ++ [45] ++ fw 6 c.toNat := by
            have := hkd b c
            rw [← hk.2.2.2, hr] at this
            exact List.append_cancel_left this
          subst hrr
          rw [List.getElem_append_left (by simp [fw_length]), List.getElem_append_right (by simp [fw_length])]
          simp [fw_length]
        exact .inr ⟨by rw [hq, hno false hn rfl], hn⟩
    · have hn : ∀ b c, ¬ isKey s i b c := fun b c hk => by
        apply h13
        have hrr : r = fw 6 b.toNat ++ [45] ++ fw 6 c.toNat := by
          have := hkd b c
          rw [← hk.2.2.2, hr] at this
          exact List.append_cancel_left this
        rw [hrr]
        simp [fw_length]
      rw [if_neg (by omega)]
      exact .inr ⟨hno false hn rfl, hn⟩
  · have hp0 : Lib.hasPrefix s.data.toList (pre3 i) = false := by simpa using hp
    rw [hp0]
    simp only [Bool.false_eq_true, if_false, impl_readDataKey.j1]
    refine .inr ⟨by rw [hw], fun b c hk => hp ?_⟩
    rw [hk.2.2.2, hkd b c]
    exact (hpre _).1
theorem key_one (s : ByteArray) (a b c a' b' c' : Int) (h : isKey s a b c) (h' : isKey s a' b' c') : a = a' ∧ b = b' ∧ c = c' := by
  have e := spec_key_C a b c h.1 h.2.1 h.2.2.1 100 (by omega)
  have e' := spec_key_C a' b' c' h'.1 h'.2.1 h'.2.2.1 100 (by omega)
  rw [← h.2.2.2] at e
  rw [← h'.2.2.2, e] at e'
  simpa using e'
/-- reading a data key: both tell the same -/
theorem key_same (s : ByteArray) (hs : s.size ≤ 1048576) (k : Nat) (hk : s.size + 62 < k) : ∃ a b c q, spec_l03ToKey.f k s = some (a, b, c, q) ∧ (∃ a' b' c', impl_readDataKey.f k s = some (a', b', c', q) ∧ (q = true → a = a' ∧ b = b' ∧ c = c')) ∧ (q = true → isKey s a b c) := by
  obtain ⟨k, rfl⟩ : ∃ m, k = m + 8 := ⟨k - 8, by omega⟩
  obtain ⟨a, b, c, q, h1, h2⟩ := spec_key_T s hs (k + 7) (by omega)
  have hi : impl_readDataKey.f (k + 8) s = impl_readDataKey.l0 (k + 8) s pres 3 0 := by
    unfold impl_readDataKey.f impl_dataPrefixes.f
    rfl
  refine ⟨a, b, c, q, h1, ?_, h2⟩
  rw [hi]
  have hfound : ∀ i b' c', isKey s i b' c' → q = true ∧ a = i ∧ b = b' ∧ c = c' := fun i b' c' hk => by
    have e := spec_key_C i b' c' hk.1 hk.2.1 hk.2.2.1 (k + 7) (by omega)
    rw [← hk.2.2.2, h1] at e
    simp only [Option.some.injEq, Prod.mk.injEq] at e
    exact ⟨e.2.2.2, e.1, e.2.1, e.2.2.1⟩
  have hend : impl_readDataKey.l0 (k + 2) s pres 3 3 = some (0, 0, 0, false) := by
    simp only [impl_readDataKey.l0]
    rw [if_neg (by decide)]
  rcases impl_key_step s hs 0 (by omega) (k + 6) with ⟨b', c', e, hk0⟩ | ⟨e, n0⟩
  · obtain ⟨hq, _, _, _⟩ := hfound 0 b' c' hk0
    subst hq
    exact ⟨0, b', c', e, fun _ => (hfound 0 b' c' hk0).2⟩
  · rw [e]
    rcases impl_key_step s hs (0 + 1) (by omega) (k + 4) with ⟨b', c', e, hk0⟩ | ⟨e, n1⟩
    · obtain ⟨hq, _, _, _⟩ := hfound _ b' c' hk0
      subst hq
      exact ⟨_, b', c', e, fun _ => (hfound _ b' c' hk0).2⟩
    · rw [e]
      rcases impl_key_step s hs (0 + 1 + 1) (by omega) (k + 2) with ⟨b', c', e, hk0⟩ | ⟨e, n2⟩
      · obtain ⟨hq, _, _, _⟩ := hfound _ b' c' hk0
        subst hq
        exact ⟨_, b', c', e, fun _ => (hfound _ b' c' hk0).2⟩
      · rw [e]
        have hq : q = false := by
          cases q with
          | false => rfl
          | true =>
            exfalso
            have hk0 := h2 rfl
            have : a = 0 ∨ a = 0 + 1 ∨ a = 0 + 1 + 1 := by have := hk0.1; omega
            rcases this with rfl | rfl | rfl
            · exact n0 _ _ hk0
            · exact n1 _ _ hk0
            · exact n2 _ _ hk0
        subst hq
        exact ⟨0, 0, 0, hend, by simp⟩
/-- the data keys: both tell the same -/
theorem keys_loops (l : List S111) (next : Int) (hl : l.length ≤ 1048576) (hs : ∀ x ∈ l, x.f0.size ≤ 1048576) (d : Nat) : ∀ (k i : Nat) (out : List ByteArray), i ≤ l.length → out.length ≤ i → l.length - i = d → d + 1048640 < k →
    ∃ r : List ByteArray, r.length ≤ out.length + d ∧ spec_l11Keys.l0 k out (i : Int) l next = some r ∧ impl_Store_dataKeys.l0 k out l (l.length : Int) (i : Int) = some r := by
  induction d with
  | zero =>
    intro k i out hi ho hd hk
    obtain ⟨k, rfl⟩ : ∃ m, k = m + 1 := ⟨k - 1, by omega⟩
    obtain rfl : i = l.length := by omega
    simp only [spec_l11Keys.l0, impl_Store_dataKeys.l0]
    rw [if_neg (by omega)]
    exact ⟨out, by omega, rfl, by rw [if_neg (by omega)]⟩
  | succ d ih =>
    intro k i out hi ho hd hk
    obtain ⟨k, rfl⟩ : ∃ m, k = m + 1 := ⟨k - 1, by omega⟩
    have hlt : i < l.length := by omega
    have hx := hs l[i] (List.getElem_mem hlt)
    obtain ⟨a, b, c, q, h1, ⟨a', b', c', h2, _⟩, _⟩ := key_same (l[i]).f0 hx k (by omega)
    simp only [spec_l11Keys.l0, impl_Store_dataKeys.l0]
    rw [if_pos (by omega), if_pos (by omega), if_pos (by omega), if_pos (by omega), if_pos (by omega), rd111_at l i hlt, h1, h2, cast_wrap hlt (by omega)]
    simp only [Option.bind_some]
    cases q with
    | false =>
      obtain ⟨r, h3, h4, h5⟩ := ih k (i + 1) out (by omega) (by omega) (by omega) (by omega)
      exact ⟨r, by omega, by simpa [hlt] using h4, by simpa [hlt] using h5⟩
    | true =>
      simp only [if_true]
      rw [if_pos (by omega), if_pos (by omega)]
      obtain ⟨r, h3, h4, h5⟩ := ih k (i + 1) (out ++ [(l[i]).f0]) (by omega) (by rw [List.length_append, List.length_singleton]; omega) (by omega) (by omega)
      rw [List.length_append, List.length_singleton] at h3
      exact ⟨r, by omega, h4, h5⟩
theorem FnExactDataKeys : laws_FnExactDataKeys.Pure := by
  intro l next ⟨_, hl, sl⟩ _
  obtain ⟨D, hD⟩ : ∃ D, D = l.length * (l.length + 5) := ⟨_, rfl⟩
  obtain ⟨K, hK⟩ : ∃ K : Nat, K = D + 140737490000000 := ⟨_, rfl⟩
  refine ⟨K + 3, ?_⟩
  obtain ⟨r1, s1, b1⟩ := szObjectS_tot l (fun x hx => ⟨(sl x hx).1, (sl x hx).2.2⟩) 1048576 (by omega) (by omega) (by omega) (K + 3) (by omega)
  unfold laws_FnExactDataKeys.f laws_szStore.f
  rw [s1]
  simp only [Option.bind_some]
  by_cases ca : r1 < 0
  · simp [ca]
  have b1 := b1 (by omega)
  have la : (l.map cvObject).length = l.length := by simp
  have hsz : ∀ x ∈ l.map cvObject, x.f0.size ≤ 1048576 := fun x hx => by
    obtain ⟨y, hy, rfl⟩ := List.mem_map.1 hx
    have := (b1.2.2 y hy).1
    show y.f0.size ≤ 1048576
    omega
  have key : ∀ k, K ≤ k → ∃ (r : List ByteArray) (c : Int), spec_DataKeys.f k (l.map cvObject) next = some (r, c) ∧ impl_DataKeys.f k (l.map cvObject) next = some (r, c) ∧ r.length ≤ 1048576 := by
    intro k hk
    obtain ⟨h1, h2⟩ := store_same (l.map cvObject) (by omega) 140737488351232 (by omega) (fun x hx => by have := hsz x hx; omega) next k (by rw [la, ← hD]; omega)
    obtain ⟨r, h3, h4, h5⟩ := keys_loops (l.map cvObject) next (by omega) hsz (l.map cvObject).length k 0 [] (by omega) (by simp) (by omega) (by omega)
    rw [show ((0 : Nat) : Int) = 0 from rfl] at h4 h5
    unfold spec_DataKeys.f impl_DataKeys.f spec_l11Keys.f impl_Store_dataKeys.f
    rw [h1, h2, h4, h5]
    simp only [Option.bind_some]
    cases storeB (l.map cvObject) next with
    | false => exact ⟨[], 1, rfl, rfl, by simp⟩
    | true => exact ⟨r, 0, rfl, rfl, by rw [List.length_nil] at h3; omega⟩
  obtain ⟨r, c, h1, h2, h3⟩ := key (K + 3) (by omega)
  have h4 : impl_DataKeys.f (K + 1) (l.map cvObject) next = some (r, c) := by
    obtain ⟨r', c', _, g2, _⟩ := key (K + 1) (by omega)
    have := impl_DataKeys.mono (l.map cvObject) next (K + 1) _ g2
    have := impl_DataKeys.mono (l.map cvObject) next (K + 2) _ this
    rw [h2] at this
    rw [g2, this]
  simp only [ca, if_false, Option.bind_some, laws_toStore.f, toObjectS_eq l (by omega) (K + 3) (by omega), h1, h2]
  rw [eqStringS_same r h3 (K + 3) (by omega)]
  simp only [Option.bind_some, if_true, bne_self_eq_false]
  simp only [laws_FnExactDataKeys.j0, Bool.false_eq_true, if_false, laws_toStore.f, toObjectS_eq l (by omega) (K + 2) (by omega), Option.bind_some, laws_eqStore.f, eqObjectS_same (l.map cvObject) (by omega) (K + 2) (by omega), if_true, laws_markStore.f, markObjectS_eq (l.map cvObject) 1 (K + 2) (by omega) (by omega) (by omega) (by omega)]
  rw [if_neg (by omega), eqStringS_same r h3 (K + 2) (by omega)]
  simp only [Option.bind_some, if_true, bne_self_eq_false]
  simp only [laws_FnExactDataKeys.j1, Bool.false_eq_true, if_false]
  rw [markStringS_eq r 1 (K + 1) (by omega) (by omega) (by omega) (by omega)]
  simp only [Option.bind_some]
  rw [heldStringS_eq r.length 1 (K + 1) (by omega) (by omega) (by omega) (by omega)]
  simp only [Option.bind_some]
  rw [if_neg (by omega), if_pos trivial]
  simp only [laws_toStore.f]
  rw [toObjectS_eq l (by omega) (K + 1) (by omega)]
  simp only [Option.bind_some]
  rw [h4]
  simp only [Option.bind_some]
  rw [eqStringS_same r h3 (K + 1) (by omega)]
  simp only [Option.bind_some, if_true, bne_self_eq_false, laws_FnExactDataKeys.j2, Bool.false_eq_true, if_false]
  rw [heldStringS_eq r.length 1 K (by omega) (by omega) (by omega) (by omega)]
  simp only [Option.bind_some]
  rw [if_neg (by omega)]
  first | rw [if_pos rfl] | rw [if_pos trivial]

end Go.Proofs.YtleifhnoaaphmaaDoor.Pure
