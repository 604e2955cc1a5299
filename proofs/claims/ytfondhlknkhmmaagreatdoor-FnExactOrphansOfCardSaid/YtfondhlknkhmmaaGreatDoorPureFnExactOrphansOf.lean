/- The pure law of FnExactOrphansOf: what the printed functions compute answers true for every input of the kinds and sizes that the statement gives. -/
import Derived.Test.YtfondhlknkhmmaaGreatDoorKinFnExactOrphansOf
import Derived.Lib.AtoiAllCases
import Derived.Lib.ItoaLen
import Derived.Lib.SplitLaws
import Derived.Lib.AtoiAllCases
import Derived.Lib.ItoaLen
import Derived.Lib.SplitLaws
import Derived.Lib.AtoiAllCases
import Derived.Lib.ItoaLen
import Derived.Lib.SplitLaws
import Derived.Lib.AtoiAllCases
import Derived.Lib.ItoaLen
import Derived.Lib.SplitLaws
namespace Go.Proofs.YtfondhlknkhmmaaGreatDoor.Pure
open Go.RowKit Go.Proofs.YtfondhlknkhmmaaGreatDoorW.PrintWords Go.Proofs.YtfondhlknkhmmaaGreatDoorW.PrintLast Go.Proofs.YtfondhlknkhmmaaGreatDoor.XFnExactOrphansOf
set_option linter.unusedSimpArgs false
set_option linter.unusedVariables false

-- BODY
theorem within_eq (a b c : Int) : impl_within.f a b c = some (decide (b ≤ a) && decide (a ≤ c)) := by
  unfold impl_within.f; by_cases h : b ≤ a <;> simp [h]
theorem in_eq (a b c : Int) : spec_l01In.f a b c = some (decide (b ≤ a) && decide (a ≤ c)) := by
  unfold spec_l01In.f; by_cases h : b ≤ a <;> simp [h]
theorem first2 (k : Nat) (b1 b2 : Bool) (c1 c2 : Int) : impl_first.f (k + 3) [anyB b1, anyI c1, anyB b2, anyI c2] = some (if b1 = true then c1 else if b2 = true then c2 else 0) := by
  have w1 : wrap64 1 = 1 := by unfold wrap64; omega
  have w2 : wrap64 2 = 2 := by unfold wrap64; omega
  have w3 : wrap64 3 = 3 := by unfold wrap64; omega
  have w4 : wrap64 4 = 4 := by unfold wrap64; omega
  have w5 : wrap64 5 = 5 := by unfold wrap64; omega
  cases b1 <;> cases b2 <;> simp [impl_first.f, impl_first.l0, w1, w2, w3, w4, w5, rdOf, anyAsB, anyAsI]
theorem first3 (k : Nat) (b1 b2 b3 : Bool) (c1 c2 c3 : Int) : impl_first.f (k + 4) [anyB b1, anyI c1, anyB b2, anyI c2, anyB b3, anyI c3] = some (if b1 = true then c1 else if b2 = true then c2 else if b3 = true then c3 else 0) := by
  have w1 : wrap64 1 = 1 := by unfold wrap64; omega
  have w2 : wrap64 2 = 2 := by unfold wrap64; omega
  have w3 : wrap64 3 = 3 := by unfold wrap64; omega
  have w4 : wrap64 4 = 4 := by unfold wrap64; omega
  have w5 : wrap64 5 = 5 := by unfold wrap64; omega
  have w6 : wrap64 6 = 6 := by unfold wrap64; omega
  have w7 : wrap64 7 = 7 := by unfold wrap64; omega
  cases b1 <;> cases b2 <;> cases b3 <;> simp [impl_first.f, impl_first.l0, w1, w2, w3, w4, w5, w6, w7, rdOf, anyAsB, anyAsI]
/-- list places, as the printed loops spell them -/
theorem cast_wrap {i n : Nat} (h : i < n) (hn : n ≤ 140737488351232) : wrap64 ((i : Int) + 1) = ((i + 1 : Nat) : Int) := by unfold wrap64; omega
theorem take_set_succ {α : Type} (l : List α) (i : Nat) (v : α) (h : i < l.length) : (l.set i v).take (i + 1) = l.take i ++ [v] := by
  rw [List.take_succ_eq_append_getElem (by simpa using h)]
  simp only [List.take_set, List.getElem_set_self]
  rw [List.set_eq_of_length_le (by simp; omega)]
theorem strOf_one (c : Int) : (strOfNums [c]).size = 1 := by rfl
theorem markText_loop (d : Nat) : ∀ (k : Nat) (x : Int) (s : ByteArray), 0 ≤ x → x ≤ 9223372036854775807 → x < 10 ^ d → d < k → s.size + d ≤ 100 → ∃ r, laws_markText.l0 k x s = some r := by
  induction d with
  | zero =>
    intro k x s h0 h2 h1 hk hs
    obtain ⟨k, rfl⟩ : ∃ m, k = m + 1 := ⟨k - 1, by omega⟩
    simp only [laws_markText.l0]
    rw [if_neg (by omega), if_pos (by omega)]
    exact ⟨_, rfl⟩
  | succ d ih =>
    intro k x s h0 h2 h1 hk hs
    obtain ⟨k, rfl⟩ : ∃ m, k = m + 1 := ⟨k - 1, by omega⟩
    simp only [laws_markText.l0, Option.bind_some]
    by_cases hx : x > 0
    · rw [if_pos hx, strOf_one, if_pos (by omega)]
      have hp : (10 : Int) ^ (d + 1) = 10 ^ d * 10 := Int.pow_succ 10 d
      rw [hp] at h1
      generalize (10 : Int) ^ d = q at *
      have hd : Int.tdiv x 10 = x / 10 := Int.tdiv_eq_ediv_of_nonneg h0
      have hw : wrap64 (Int.tdiv x 10) = x / 10 := by
        rw [hd]
        unfold wrap64
        omega
      rw [hw]
      refine ih k _ _ (by omega) (by omega) (by omega) (by omega) ?_
      rw [ByteArray.size_append, strOf_one]
      omega
    · rw [if_neg hx, if_pos (by omega)]
      exact ⟨_, rfl⟩
/-- the mark of place m -/
def mt (m : Int) : ByteArray := (laws_markText.f 20 m).getD ⟨#[]⟩
theorem mt_eq (m : Int) (h0 : 0 ≤ m) (h1 : m < 1000000000000000) (k : Nat) (hk : 20 ≤ k) : laws_markText.f k m = some (mt m) := by
  have h20 : laws_markText.f 20 m = some (mt m) := by
    have : ∃ r, laws_markText.f 20 m = some r := by
      unfold laws_markText.f
      by_cases hm : m ≤ 0
      · rw [if_pos hm]; exact ⟨_, rfl⟩
      · rw [if_neg hm]
        exact markText_loop 15 20 m _ (by omega) (by omega) (by rw [show (10 : Int) ^ 15 = 1000000000000000 by decide]; exact h1) (by omega) (by decide)
    obtain ⟨r, hr⟩ := this
    unfold mt
    rw [hr]
    rfl
  obtain ⟨d, rfl⟩ : ∃ d, k = 20 + d := ⟨k - 20, by omega⟩
  clear hk
  induction d with
  | zero => exact h20
  | succ d ih => exact laws_markText.mono m (20 + d) _ ih
theorem rd64_at (l : List S64) (i : Nat) (h : i < l.length) : rd_T64 l (i : Int) = l[i] := by
  unfold rd_T64; rw [Int.toNat_natCast, List.getD_eq_getElem?_getD, List.getElem?_eq_getElem h]; rfl
theorem rd59_at (l : List S59) (i : Nat) (h : i < l.length) : rd_T59 l (i : Int) = l[i] := by
  unfold rd_T59; rw [Int.toNat_natCast, List.getD_eq_getElem?_getD, List.getElem?_eq_getElem h]; rfl
def cvEntry (x : S59) : S64 := ⟨x.f0, x.f1, x.f2, x.f3⟩
theorem toEntryS_loop (l : List S59) (hl : l.length ≤ 1048576) (d : Nat) : ∀ (k i : Nat) (x : List S64), x.length = l.length → i ≤ l.length → l.length - i = d → d < k →
    laws_toEntryS.l0 k l x (i : Int) = some (x.take i ++ (l.drop i).map cvEntry) := by
  induction d with
  | zero =>
    intro k i x hx hi hd hk
    obtain ⟨k, rfl⟩ : ∃ m, k = m + 1 := ⟨k - 1, by omega⟩
    obtain rfl : i = l.length := by omega
    simp only [laws_toEntryS.l0]
    rw [if_neg (by omega), List.drop_length, List.map_nil, List.append_nil, ← hx, List.take_length]
  | succ d ih =>
    intro k i x hx hi hd hk
    obtain ⟨k, rfl⟩ : ∃ m, k = m + 1 := ⟨k - 1, by omega⟩
    have hlt : i < l.length := by omega
    simp only [laws_toEntryS.l0, laws_toEntry.f, Option.bind_some]
    rw [if_pos (by omega), if_pos (by omega), if_pos (by omega), rd59_at l i hlt, cast_wrap hlt (by omega), ih k (i + 1) _ (by simpa using hx) (by omega) (by omega) (by omega), Int.toNat_natCast, take_set_succ _ _ _ (by omega),
      List.drop_eq_getElem_cons hlt, List.map_cons, List.append_assoc]
    rfl
theorem toEntryS_eq (l : List S59) (hl : l.length ≤ 1048576) (k : Nat) (hk : l.length < k) : laws_toEntryS.f k l = some (l.map cvEntry) := by
  unfold laws_toEntryS.f
  rw [if_pos (by omega), if_pos (by omega)]
  have := toEntryS_loop l hl l.length k 0 (List.replicate ((l.length : Int)).toNat z64) (by simp) (by omega) (by omega) hk
  refine Eq.trans this ?_
  simp
theorem eqEntry_same (x0 : Int) (x1 : Int) (x2 : Int) (x3 : ByteArray) : laws_eqEntry.f x0 x1 x2 x3 x0 x1 x2 x3 = some true := by simp [laws_eqEntry.f]
theorem eqEntryS_loop (a : List S64) (hl : a.length ≤ 1048576) (d : Nat) : ∀ (k i : Nat), i ≤ a.length → a.length - i = d → d < k → laws_eqEntryS.l0 k a a (i : Int) = some true := by
  induction d with
  | zero =>
    intro k i hi hd hk
    obtain ⟨k, rfl⟩ : ∃ m, k = m + 1 := ⟨k - 1, by omega⟩
    simp only [laws_eqEntryS.l0]
    rw [if_neg (by omega)]
  | succ d ih =>
    intro k i hi hd hk
    obtain ⟨k, rfl⟩ : ∃ m, k = m + 1 := ⟨k - 1, by omega⟩
    have hlt : i < a.length := by omega
    simp only [laws_eqEntryS.l0]
    rw [if_pos (by omega), if_pos (by omega), if_pos (by omega), eqEntry_same, cast_wrap hlt (by omega), ih k (i + 1) (by omega) (by omega) (by omega)]
    simp
theorem eqEntryS_same (a : List S64) (hl : a.length ≤ 1048576) (k : Nat) (hk : a.length < k) : laws_eqEntryS.f k a a = some true := by
  unfold laws_eqEntryS.f
  rw [if_pos rfl]
  exact eqEntryS_loop a hl a.length k 0 (by omega) (by omega) hk
/-- the mark of an element -/
def mkEntry (m : Int) : S64 := ⟨m, m + 1, m + 1 + 1, mt (m + 1 + 1 + 1)⟩
def marksEntry : Nat → Int → List S64
  | 0, _ => []
  | d + 1, m => mkEntry m :: marksEntry d (m + 1 + 1 + 1 + 1)
theorem markEntryS_loop (d : Nat) : ∀ (k i : Nat) (l : List S64) (m : Int), i ≤ l.length → l.length - i = d → d + 20 < k → l.length ≤ 1048576 → 0 ≤ m → m + 4 * d ≤ 100000000000000 →
    laws_markEntryS.l0 k l m (i : Int) = some (m + 4 * d, l.take i ++ marksEntry d m) := by
  induction d with
  | zero =>
    intro k i l m hi hd hk hl h0 hm
    obtain ⟨k, rfl⟩ : ∃ m, k = m + 1 := ⟨k - 1, by omega⟩
    obtain rfl : i = l.length := by omega
    simp only [laws_markEntryS.l0]
    rw [if_neg (by omega)]
    simp [marksEntry]
  | succ d ih =>
    intro k i l m hi hd hk hl h0 hm
    obtain ⟨k, rfl⟩ : ∃ m, k = m + 1 := ⟨k - 1, by omega⟩
    have hlt : i < l.length := by omega
    have hc : ((d + 1 : Nat) : Int) = (d : Int) + 1 := by omega
    rw [hc] at hm
    have w1 : wrap64 (m + 1) = m + 1 := by unfold wrap64; omega
    have w2 : wrap64 (m + 1 + 1) = m + 1 + 1 := by unfold wrap64; omega
    have w3 : wrap64 (m + 1 + 1 + 1) = m + 1 + 1 + 1 := by unfold wrap64; omega
    have w4 : wrap64 (m + 1 + 1 + 1 + 1) = m + 1 + 1 + 1 + 1 := by unfold wrap64; omega
    have rs : ∀ (l : List S64) (v : S64), i < l.length → rd_T64 (l.set i v) (i : Int) = v := fun l v h => by rw [rd64_at _ _ (by simpa using h), List.getElem_set_self]
    simp only [laws_markEntryS.l0, Option.bind_some, Int.toNat_natCast, mt_eq (m + 1 + 1 + 1) (by omega) (by omega) k (by omega), w1, w2, w3, w4]
    rw [if_pos (by omega), if_pos (by omega)]
    simp only [List.set_set, List.length_set, rs _ _ hlt, rd64_at l i hlt, cast_wrap hlt (by omega)]
    rw [ih k (i + 1) _ (m + 1 + 1 + 1 + 1) (by simp; omega) (by simp; omega) (by omega) (by simpa using hl) (by omega) (by omega), take_set_succ _ _ _ hlt, List.append_assoc]
    simp only [marksEntry, List.singleton_append, Option.some.injEq, Prod.mk.injEq]
    exact ⟨by omega, rfl⟩
theorem markEntryS_eq (l : List S64) (m : Int) (k : Nat) (hk : l.length + 20 < k) (hl : l.length ≤ 1048576) (h0 : 0 ≤ m) (hm : m + 4 * l.length ≤ 100000000000000) : laws_markEntryS.f k l m = some (m + 4 * l.length, marksEntry l.length m) := by
  have := markEntryS_loop l.length k 0 l m (by omega) (by omega) hk hl h0 hm
  unfold laws_markEntryS.f
  refine Eq.trans this ?_
  simp
theorem marksEntry_length : ∀ (d : Nat) (m : Int), (marksEntry d m).length = d
  | 0, _ => rfl
  | d + 1, m => by simp [marksEntry, marksEntry_length d]
theorem szEntry_tot (x0 : Int) (x1 : Int) (x2 : Int) (x3 : ByteArray) (a : Int) (h0 : 0 ≤ a) (h1 : a ≤ 1048576) (hs0 : x3.size ≤ 140737488351232) : ∃ r, laws_szEntry.f x0 x1 x2 x3 a = some r ∧ (0 ≤ r → r ≤ a ∧ (x3.size : Int) ≤ a) := by
  unfold laws_szEntry.f
  have w0 : wrap64 (a - (x3.size : Int)) = a - (x3.size : Int) := by unfold wrap64; omega
  simp only [w0]
  by_cases c0 : a - (x3.size : Int) < 0
  · rw [if_pos c0]; exact ⟨-1, rfl, fun h => by omega⟩
  rw [if_neg c0]
  exact ⟨_, rfl, fun _ => by omega⟩
theorem szEntryS_loop (l : List S59) (hl : l.length ≤ 1048576) (hs : ∀ x ∈ l, x.f3.size ≤ 140737488351232) (d : Nat) : ∀ (k i : Nat) (a : Int), i ≤ l.length → l.length - i = d → d < k → 0 ≤ a → a ≤ 1048576 → ∃ r, laws_szEntryS.l0 k l a (i : Int) = some r ∧ (0 ≤ r → r ≤ a ∧ ∀ j (h : j < l.length), i ≤ j → ((l[j].f3).size : Int) ≤ a) := by
  induction d with
  | zero =>
    intro k i a hi hd hk h0 h1
    obtain ⟨k, rfl⟩ : ∃ m, k = m + 1 := ⟨k - 1, by omega⟩
    simp only [laws_szEntryS.l0]
    rw [if_neg (by omega)]
    exact ⟨a, rfl, fun _ => ⟨Int.le_refl _, fun j h hj => by omega⟩⟩
  | succ d ih =>
    intro k i a hi hd hk h0 h1
    obtain ⟨k, rfl⟩ : ∃ m, k = m + 1 := ⟨k - 1, by omega⟩
    have hlt : i < l.length := by omega
    have hsi := hs l[i] (List.getElem_mem hlt)
    obtain ⟨r, hr, hb⟩ := szEntry_tot l[i].f0 l[i].f1 l[i].f2 l[i].f3 a h0 h1 hsi
    simp only [laws_szEntryS.l0]
    rw [if_pos (by omega), if_pos (by omega), rd59_at l i hlt, hr]
    simp only [Option.bind_some]
    by_cases hn : r < 0
    · rw [if_pos hn]; exact ⟨-1, rfl, fun h => by omega⟩
    · rw [if_neg hn, cast_wrap hlt (by omega)]
      have hb' := hb (by omega)
      obtain ⟨q, hq, hqb⟩ := ih k (i + 1) r (by omega) (by omega) (by omega) (by omega) (by omega)
      refine ⟨q, hq, fun h => ⟨by have := hqb h; omega, fun j hj hij => ?_⟩⟩
      have hqb' := hqb h
      by_cases e : j = i
      · subst e; omega
      · have := hqb'.2 j hj (by omega)
        omega
theorem szEntryS_tot (l : List S59) (hs : ∀ x ∈ l, x.f3.size ≤ 140737488351232) (a : Int) (h0 : 0 ≤ a) (h1 : a ≤ 1048576) (hl : l.length ≤ 140737488351232) (k : Nat) (hk : 1048577 < k) : ∃ r, laws_szEntryS.f k l a = some r ∧ (0 ≤ r → r ≤ a ∧ (l.length : Int) ≤ a ∧ ∀ x ∈ l, ((x.f3).size : Int) ≤ a) := by
  unfold laws_szEntryS.f
  have hw : wrap64 (a - (l.length : Int)) = a - (l.length : Int) := by unfold wrap64; omega
  rw [hw]
  by_cases h : a - (l.length : Int) < 0
  · rw [if_pos h]; exact ⟨-1, rfl, fun h => by omega⟩
  · rw [if_neg h]
    obtain ⟨r, hr, hb⟩ := szEntryS_loop l (by omega) hs l.length k 0 (a - l.length) (by omega) (by omega) (by omega) (by omega) (by omega)
    refine ⟨r, hr, fun h => ?_⟩
    have hb' := hb h
    refine ⟨by omega, by omega, fun x hx => ?_⟩
    obtain ⟨j, hj, rfl⟩ := List.getElem_of_mem hx
    have := hb'.2 j hj (by omega)
    omega
theorem rd71_at (l : List S71) (i : Nat) (h : i < l.length) : rd_T71 l (i : Int) = l[i] := by
  unfold rd_T71; rw [Int.toNat_natCast, List.getD_eq_getElem?_getD, List.getElem?_eq_getElem h]; rfl
theorem rd62_at (l : List S62) (i : Nat) (h : i < l.length) : rd_T62 l (i : Int) = l[i] := by
  unfold rd_T62; rw [Int.toNat_natCast, List.getD_eq_getElem?_getD, List.getElem?_eq_getElem h]; rfl
def cvTomb (x : S62) : S71 := ⟨x.f0, x.f1⟩
theorem toTombS_loop (l : List S62) (hl : l.length ≤ 1048576) (d : Nat) : ∀ (k i : Nat) (x : List S71), x.length = l.length → i ≤ l.length → l.length - i = d → d < k →
    laws_toTombS.l0 k l x (i : Int) = some (x.take i ++ (l.drop i).map cvTomb) := by
  induction d with
  | zero =>
    intro k i x hx hi hd hk
    obtain ⟨k, rfl⟩ : ∃ m, k = m + 1 := ⟨k - 1, by omega⟩
    obtain rfl : i = l.length := by omega
    simp only [laws_toTombS.l0]
    rw [if_neg (by omega), List.drop_length, List.map_nil, List.append_nil, ← hx, List.take_length]
  | succ d ih =>
    intro k i x hx hi hd hk
    obtain ⟨k, rfl⟩ : ∃ m, k = m + 1 := ⟨k - 1, by omega⟩
    have hlt : i < l.length := by omega
    simp only [laws_toTombS.l0, laws_toTomb.f, Option.bind_some]
    rw [if_pos (by omega), if_pos (by omega), if_pos (by omega), rd62_at l i hlt, cast_wrap hlt (by omega), ih k (i + 1) _ (by simpa using hx) (by omega) (by omega) (by omega), Int.toNat_natCast, take_set_succ _ _ _ (by omega),
      List.drop_eq_getElem_cons hlt, List.map_cons, List.append_assoc]
    rfl
theorem toTombS_eq (l : List S62) (hl : l.length ≤ 1048576) (k : Nat) (hk : l.length < k) : laws_toTombS.f k l = some (l.map cvTomb) := by
  unfold laws_toTombS.f
  rw [if_pos (by omega), if_pos (by omega)]
  have := toTombS_loop l hl l.length k 0 (List.replicate ((l.length : Int)).toNat z71) (by simp) (by omega) (by omega) hk
  refine Eq.trans this ?_
  simp
theorem eqTomb_same (x0 : Int) (x1 : ByteArray) : laws_eqTomb.f x0 x1 x0 x1 = some true := by simp [laws_eqTomb.f]
theorem eqTombS_loop (a : List S71) (hl : a.length ≤ 1048576) (d : Nat) : ∀ (k i : Nat), i ≤ a.length → a.length - i = d → d < k → laws_eqTombS.l0 k a a (i : Int) = some true := by
  induction d with
  | zero =>
    intro k i hi hd hk
    obtain ⟨k, rfl⟩ : ∃ m, k = m + 1 := ⟨k - 1, by omega⟩
    simp only [laws_eqTombS.l0]
    rw [if_neg (by omega)]
  | succ d ih =>
    intro k i hi hd hk
    obtain ⟨k, rfl⟩ : ∃ m, k = m + 1 := ⟨k - 1, by omega⟩
    have hlt : i < a.length := by omega
    simp only [laws_eqTombS.l0]
    rw [if_pos (by omega), if_pos (by omega), if_pos (by omega), eqTomb_same, cast_wrap hlt (by omega), ih k (i + 1) (by omega) (by omega) (by omega)]
    simp
theorem eqTombS_same (a : List S71) (hl : a.length ≤ 1048576) (k : Nat) (hk : a.length < k) : laws_eqTombS.f k a a = some true := by
  unfold laws_eqTombS.f
  rw [if_pos rfl]
  exact eqTombS_loop a hl a.length k 0 (by omega) (by omega) hk
/-- the mark of an element -/
def mkTomb (m : Int) : S71 := ⟨m, mt (m + 1)⟩
def marksTomb : Nat → Int → List S71
  | 0, _ => []
  | d + 1, m => mkTomb m :: marksTomb d (m + 1 + 1)
theorem markTombS_loop (d : Nat) : ∀ (k i : Nat) (l : List S71) (m : Int), i ≤ l.length → l.length - i = d → d + 20 < k → l.length ≤ 1048576 → 0 ≤ m → m + 2 * d ≤ 100000000000000 →
    laws_markTombS.l0 k l m (i : Int) = some (m + 2 * d, l.take i ++ marksTomb d m) := by
  induction d with
  | zero =>
    intro k i l m hi hd hk hl h0 hm
    obtain ⟨k, rfl⟩ : ∃ m, k = m + 1 := ⟨k - 1, by omega⟩
    obtain rfl : i = l.length := by omega
    simp only [laws_markTombS.l0]
    rw [if_neg (by omega)]
    simp [marksTomb]
  | succ d ih =>
    intro k i l m hi hd hk hl h0 hm
    obtain ⟨k, rfl⟩ : ∃ m, k = m + 1 := ⟨k - 1, by omega⟩
    have hlt : i < l.length := by omega
    have hc : ((d + 1 : Nat) : Int) = (d : Int) + 1 := by omega
    rw [hc] at hm
    have w1 : wrap64 (m + 1) = m + 1 := by unfold wrap64; omega
    have w2 : wrap64 (m + 1 + 1) = m + 1 + 1 := by unfold wrap64; omega
    have rs : ∀ (l : List S71) (v : S71), i < l.length → rd_T71 (l.set i v) (i : Int) = v := fun l v h => by rw [rd71_at _ _ (by simpa using h), List.getElem_set_self]
    simp only [laws_markTombS.l0, Option.bind_some, Int.toNat_natCast, mt_eq (m + 1) (by omega) (by omega) k (by omega), w1, w2]
    rw [if_pos (by omega), if_pos (by omega)]
    simp only [List.set_set, List.length_set, rs _ _ hlt, rd71_at l i hlt, cast_wrap hlt (by omega)]
    rw [ih k (i + 1) _ (m + 1 + 1) (by simp; omega) (by simp; omega) (by omega) (by simpa using hl) (by omega) (by omega), take_set_succ _ _ _ hlt, List.append_assoc]
    simp only [marksTomb, List.singleton_append, Option.some.injEq, Prod.mk.injEq]
    exact ⟨by omega, rfl⟩
theorem markTombS_eq (l : List S71) (m : Int) (k : Nat) (hk : l.length + 20 < k) (hl : l.length ≤ 1048576) (h0 : 0 ≤ m) (hm : m + 2 * l.length ≤ 100000000000000) : laws_markTombS.f k l m = some (m + 2 * l.length, marksTomb l.length m) := by
  have := markTombS_loop l.length k 0 l m (by omega) (by omega) hk hl h0 hm
  unfold laws_markTombS.f
  refine Eq.trans this ?_
  simp
theorem marksTomb_length : ∀ (d : Nat) (m : Int), (marksTomb d m).length = d
  | 0, _ => rfl
  | d + 1, m => by simp [marksTomb, marksTomb_length d]
theorem szTomb_tot (x0 : Int) (x1 : ByteArray) (a : Int) (h0 : 0 ≤ a) (h1 : a ≤ 1048576) (hs0 : x1.size ≤ 140737488351232) : ∃ r, laws_szTomb.f x0 x1 a = some r ∧ (0 ≤ r → r ≤ a ∧ (x1.size : Int) ≤ a) := by
  unfold laws_szTomb.f
  have w0 : wrap64 (a - (x1.size : Int)) = a - (x1.size : Int) := by unfold wrap64; omega
  simp only [w0]
  by_cases c0 : a - (x1.size : Int) < 0
  · rw [if_pos c0]; exact ⟨-1, rfl, fun h => by omega⟩
  rw [if_neg c0]
  exact ⟨_, rfl, fun _ => by omega⟩
theorem szTombS_loop (l : List S62) (hl : l.length ≤ 1048576) (hs : ∀ x ∈ l, x.f1.size ≤ 140737488351232) (d : Nat) : ∀ (k i : Nat) (a : Int), i ≤ l.length → l.length - i = d → d < k → 0 ≤ a → a ≤ 1048576 → ∃ r, laws_szTombS.l0 k l a (i : Int) = some r ∧ (0 ≤ r → r ≤ a ∧ ∀ j (h : j < l.length), i ≤ j → ((l[j].f1).size : Int) ≤ a) := by
  induction d with
  | zero =>
    intro k i a hi hd hk h0 h1
    obtain ⟨k, rfl⟩ : ∃ m, k = m + 1 := ⟨k - 1, by omega⟩
    simp only [laws_szTombS.l0]
    rw [if_neg (by omega)]
    exact ⟨a, rfl, fun _ => ⟨Int.le_refl _, fun j h hj => by omega⟩⟩
  | succ d ih =>
    intro k i a hi hd hk h0 h1
    obtain ⟨k, rfl⟩ : ∃ m, k = m + 1 := ⟨k - 1, by omega⟩
    have hlt : i < l.length := by omega
    have hsi := hs l[i] (List.getElem_mem hlt)
    obtain ⟨r, hr, hb⟩ := szTomb_tot l[i].f0 l[i].f1 a h0 h1 hsi
    simp only [laws_szTombS.l0]
    rw [if_pos (by omega), if_pos (by omega), rd62_at l i hlt, hr]
    simp only [Option.bind_some]
    by_cases hn : r < 0
    · rw [if_pos hn]; exact ⟨-1, rfl, fun h => by omega⟩
    · rw [if_neg hn, cast_wrap hlt (by omega)]
      have hb' := hb (by omega)
      obtain ⟨q, hq, hqb⟩ := ih k (i + 1) r (by omega) (by omega) (by omega) (by omega) (by omega)
      refine ⟨q, hq, fun h => ⟨by have := hqb h; omega, fun j hj hij => ?_⟩⟩
      have hqb' := hqb h
      by_cases e : j = i
      · subst e; omega
      · have := hqb'.2 j hj (by omega)
        omega
theorem szTombS_tot (l : List S62) (hs : ∀ x ∈ l, x.f1.size ≤ 140737488351232) (a : Int) (h0 : 0 ≤ a) (h1 : a ≤ 1048576) (hl : l.length ≤ 140737488351232) (k : Nat) (hk : 1048577 < k) : ∃ r, laws_szTombS.f k l a = some r ∧ (0 ≤ r → r ≤ a ∧ (l.length : Int) ≤ a ∧ ∀ x ∈ l, ((x.f1).size : Int) ≤ a) := by
  unfold laws_szTombS.f
  have hw : wrap64 (a - (l.length : Int)) = a - (l.length : Int) := by unfold wrap64; omega
  rw [hw]
  by_cases h : a - (l.length : Int) < 0
  · rw [if_pos h]; exact ⟨-1, rfl, fun h => by omega⟩
  · rw [if_neg h]
    obtain ⟨r, hr, hb⟩ := szTombS_loop l (by omega) hs l.length k 0 (a - l.length) (by omega) (by omega) (by omega) (by omega) (by omega)
    refine ⟨r, hr, fun h => ?_⟩
    have hb' := hb h
    refine ⟨by omega, by omega, fun x hx => ?_⟩
    obtain ⟨j, hj, rfl⟩ := List.getElem_of_mem hx
    have := hb'.2 j hj (by omega)
    omega
theorem rdS_at (l : List ByteArray) (i : Nat) (h : i < l.length) : rdOf ByteArray.empty l (i : Int) = l[i] := by
  unfold rdOf; rw [Int.toNat_natCast, List.getD_eq_getElem?_getD, List.getElem?_eq_getElem h]; rfl
theorem toStringS_loop (l : List ByteArray) (hl : l.length ≤ 1048576) (d : Nat) : ∀ (k i : Nat) (x : List ByteArray), x.length = l.length → i ≤ l.length → l.length - i = d → d < k →
    laws_toStringS.l0 k l x (i : Int) = some (x.take i ++ (l.drop i).map (fun x : ByteArray => x)) := by
  induction d with
  | zero =>
    intro k i x hx hi hd hk
    obtain ⟨k, rfl⟩ : ∃ m, k = m + 1 := ⟨k - 1, by omega⟩
    obtain rfl : i = l.length := by omega
    simp only [laws_toStringS.l0]
    rw [if_neg (by omega), List.drop_length, List.map_nil, List.append_nil, ← hx, List.take_length]
  | succ d ih =>
    intro k i x hx hi hd hk
    obtain ⟨k, rfl⟩ : ∃ m, k = m + 1 := ⟨k - 1, by omega⟩
    have hlt : i < l.length := by omega
    simp only [laws_toStringS.l0]
    rw [if_pos (by omega), if_pos (by omega), if_pos (by omega), rdS_at l i hlt, cast_wrap hlt (by omega), ih k (i + 1) _ (by simpa using hx) (by omega) (by omega) (by omega), Int.toNat_natCast, take_set_succ _ _ _ (by omega),
      List.drop_eq_getElem_cons hlt, List.map_cons, List.append_assoc]
    rfl
theorem toStringS_eq (l : List ByteArray) (hl : l.length ≤ 1048576) (k : Nat) (hk : l.length < k) : laws_toStringS.f k l = some (l.map (fun x : ByteArray => x)) := by
  unfold laws_toStringS.f
  rw [if_pos (by omega), if_pos (by omega)]
  have := toStringS_loop l hl l.length k 0 (List.replicate ((l.length : Int)).toNat (⟨#[]⟩ : ByteArray)) (by simp) (by omega) (by omega) hk
  refine Eq.trans this ?_
  simp
theorem eqStringS_loop (a : List ByteArray) (hl : a.length ≤ 1048576) (d : Nat) : ∀ (k i : Nat), i ≤ a.length → a.length - i = d → d < k → laws_eqStringS.l0 k a a (i : Int) = some true := by
  induction d with
  | zero =>
    intro k i hi hd hk
    obtain ⟨k, rfl⟩ : ∃ m, k = m + 1 := ⟨k - 1, by omega⟩
    simp only [laws_eqStringS.l0]
    rw [if_neg (by omega)]
  | succ d ih =>
    intro k i hi hd hk
    obtain ⟨k, rfl⟩ : ∃ m, k = m + 1 := ⟨k - 1, by omega⟩
    have hlt : i < a.length := by omega
    simp only [laws_eqStringS.l0]
    rw [if_pos (by omega), if_pos (by omega), if_pos (by omega), if_pos trivial, cast_wrap hlt (by omega), ih k (i + 1) (by omega) (by omega) (by omega)]
theorem eqStringS_same (a : List ByteArray) (hl : a.length ≤ 1048576) (k : Nat) (hk : a.length < k) : laws_eqStringS.f k a a = some true := by
  unfold laws_eqStringS.f
  rw [if_pos rfl]
  exact eqStringS_loop a hl a.length k 0 (by omega) (by omega) hk
/-- the mark of an element -/
def mkString (m : Int) : ByteArray := mt (m)
def marksString : Nat → Int → List ByteArray
  | 0, _ => []
  | d + 1, m => mkString m :: marksString d (m + 1)
theorem markStringS_loop (d : Nat) : ∀ (k i : Nat) (l : List ByteArray) (m : Int), i ≤ l.length → l.length - i = d → d + 20 < k → l.length ≤ 1048576 → 0 ≤ m → m + 1 * d ≤ 100000000000000 →
    laws_markStringS.l0 k l m (i : Int) = some (m + 1 * d, l.take i ++ marksString d m) := by
  induction d with
  | zero =>
    intro k i l m hi hd hk hl h0 hm
    obtain ⟨k, rfl⟩ : ∃ m, k = m + 1 := ⟨k - 1, by omega⟩
    obtain rfl : i = l.length := by omega
    simp only [laws_markStringS.l0]
    rw [if_neg (by omega)]
    simp [marksString]
  | succ d ih =>
    intro k i l m hi hd hk hl h0 hm
    obtain ⟨k, rfl⟩ : ∃ m, k = m + 1 := ⟨k - 1, by omega⟩
    have hlt : i < l.length := by omega
    have hc : ((d + 1 : Nat) : Int) = (d : Int) + 1 := by omega
    rw [hc] at hm
    have w1 : wrap64 (m + 1) = m + 1 := by unfold wrap64; omega
    have rs : ∀ (l : List ByteArray) (v : ByteArray), i < l.length → rdOf ByteArray.empty (l.set i v) (i : Int) = v := fun l v h => by rw [rdS_at _ _ (by simpa using h), List.getElem_set_self]
    simp only [laws_markStringS.l0, Option.bind_some, Int.toNat_natCast, mt_eq (m) (by omega) (by omega) k (by omega), w1]
    rw [if_pos (by omega), if_pos (by omega)]
    simp only [List.set_set, List.length_set, rs _ _ hlt, rdS_at l i hlt, cast_wrap hlt (by omega)]
    rw [ih k (i + 1) _ (m + 1) (by simp; omega) (by simp; omega) (by omega) (by simpa using hl) (by omega) (by omega), take_set_succ _ _ _ hlt, List.append_assoc]
    simp only [marksString, List.singleton_append, Option.some.injEq, Prod.mk.injEq]
    exact ⟨by omega, rfl⟩
theorem markStringS_eq (l : List ByteArray) (m : Int) (k : Nat) (hk : l.length + 20 < k) (hl : l.length ≤ 1048576) (h0 : 0 ≤ m) (hm : m + 1 * l.length ≤ 100000000000000) : laws_markStringS.f k l m = some (m + 1 * l.length, marksString l.length m) := by
  have := markStringS_loop l.length k 0 l m (by omega) (by omega) hk hl h0 hm
  unfold laws_markStringS.f
  refine Eq.trans this ?_
  simp
theorem marksString_length : ∀ (d : Nat) (m : Int), (marksString d m).length = d
  | 0, _ => rfl
  | d + 1, m => by simp [marksString, marksString_length d]
theorem heldStringS_loop (d : Nat) : ∀ (k : Nat) (p : List ByteArray) (m : Int), d + 20 < k → p.length + d ≤ 1048576 → 0 ≤ m → m + 1 * d ≤ 100000000000000 → laws_heldStringS.l0 k (p ++ marksString d m) m (p.length : Int) = some (m + 1 * d) := by
  induction d with
  | zero =>
    intro k p m hk hl h0 hm
    obtain ⟨k, rfl⟩ : ∃ m, k = m + 1 := ⟨k - 1, by omega⟩
    simp only [laws_heldStringS.l0, marksString, List.append_nil]
    rw [if_neg (by omega)]
    simp
  | succ d ih =>
    intro k p m hk hl h0 hm
    obtain ⟨k, rfl⟩ : ∃ m, k = m + 1 := ⟨k - 1, by omega⟩
    have hc : ((d + 1 : Nat) : Int) = (d : Int) + 1 := by omega
    rw [hc] at hm
    have hlen : (p ++ marksString (d + 1) m).length = p.length + (d + 1) := by rw [List.length_append, marksString_length]
    have hlt : p.length < (p ++ marksString (d + 1) m).length := by omega
    have hat : rdOf ByteArray.empty (p ++ marksString (d + 1) m) (p.length : Int) = mkString m := by rw [rdS_at _ _ hlt]; simp [marksString]
    have w1 : wrap64 (m + 1) = m + 1 := by unfold wrap64; omega
    have hn := ih k (p ++ [mkString m]) (m + 1) (by omega) (by simp; omega) (by omega) (by omega)
    rw [List.append_assoc, List.singleton_append, show (((p ++ [mkString m]).length : Nat) : Int) = ((p.length + 1 : Nat) : Int) from by simp] at hn
    simp only [laws_heldStringS.l0, Option.bind_some, mt_eq (m) (by omega) (by omega) k (by omega), w1, hat]
    rw [if_pos (by omega), if_pos (by omega), cast_wrap hlt (by omega)]
    simp only [mkString, ne_eq, not_true_eq_false, if_true, if_false]
    refine Eq.trans hn ?_
    rw [hc]
    exact congrArg some (by omega)
theorem heldStringS_eq (n : Nat) (m : Int) (k : Nat) (hk : n + 20 < k) (hl : n ≤ 1048576) (h0 : 0 ≤ m) (hm : m + 1 * n ≤ 100000000000000) : laws_heldStringS.f k (marksString n m) m = some (m + 1 * n) := by
  have := heldStringS_loop n k [] m hk (by simpa using hl) h0 hm
  unfold laws_heldStringS.f
  exact this
theorem szStringS_loop (l : List ByteArray) (hl : l.length ≤ 1048576) (hs : ∀ x ∈ l, x.size ≤ 140737488351232) : ∀ (d k i : Nat) (a : Int), i + d = l.length → d < k → 0 ≤ a → a ≤ 1048576 → ∃ r, laws_szStringS.l0 k l a (i : Int) = some r ∧ (0 ≤ r → r ≤ a ∧ ∀ x ∈ l.drop i, (x.size : Int) ≤ a)
  | 0, 0, _, _, _, hk, _, _ => by omega
  | d + 1, 0, _, _, _, hk, _, _ => by omega
  | 0, k + 1, i, a, hi, _, h0, h1 => by
    refine ⟨a, ?_, fun _ => ⟨Int.le_refl _, fun x hx => ?_⟩⟩
    · rw [laws_szStringS.l0, if_neg (by omega)]
    · rw [List.drop_eq_nil_of_le (by omega)] at hx
      cases hx
  | d + 1, k + 1, i, a, hi, hk, h0, h1 => by
    have h : i < l.length := by omega
    have hx := hs l[i] (List.getElem_mem h)
    have hw : wrap64 ((i : Int) + 1) = ((i + 1 : Nat) : Int) := by unfold wrap64; omega
    have w : wrap64 (a - (l[i].size : Int)) = a - (l[i].size : Int) := by unfold wrap64; omega
    rw [laws_szStringS.l0, if_pos (by omega), if_pos (by omega), rdS_at l i h, w, hw]
    clear hw w
    by_cases c : a - (l[i].size : Int) < 0
    · rw [if_pos c]
      exact ⟨-1, rfl, fun h => by omega⟩
    · rw [if_neg c]
      obtain ⟨r, e, b⟩ := szStringS_loop l hl hs d k (i + 1) (a - (l[i].size : Int)) (by omega) (by omega) (by omega) (by omega)
      refine ⟨r, e, fun hr => ?_⟩
      obtain ⟨b1, b2⟩ := b hr
      refine ⟨by omega, fun x hx => ?_⟩
      rw [List.drop_eq_getElem_cons h] at hx
      rcases List.mem_cons.1 hx with rfl | hx
      · omega
      · have := b2 x hx
        omega
theorem szStringS_tot (l : List ByteArray) (hs : ∀ x ∈ l, x.size ≤ 140737488351232) (a : Int) (h0 : 0 ≤ a) (h1 : a ≤ 1048576) (hl : l.length ≤ 140737488351232) (k : Nat) (hk : 1048577 < k) : ∃ r, laws_szStringS.f k l a = some r ∧ (0 ≤ r → r ≤ a ∧ (l.length : Int) ≤ a ∧ ∀ x ∈ l, (x.size : Int) ≤ a) := by
  unfold laws_szStringS.f
  have w : wrap64 (a - (l.length : Int)) = a - (l.length : Int) := by unfold wrap64; omega
  rw [w]
  clear w
  by_cases c : a - (l.length : Int) < 0
  · rw [if_pos c]
    exact ⟨-1, rfl, fun h => by omega⟩
  · rw [if_neg c]
    obtain ⟨r, e, b⟩ := szStringS_loop l (by omega) hs l.length k 0 (a - (l.length : Int)) (by omega) (by omega) (by omega) (by omega)
    refine ⟨r, e, fun hr => ?_⟩
    obtain ⟨b1, b2⟩ := b hr
    rw [List.drop_zero] at b2
    exact ⟨by omega, by omega, fun x hx => by have := b2 x hx; omega⟩
theorem toS_same (l : List ByteArray) (hl : l.length ≤ 1048576) (k : Nat) (hk : l.length < k) : laws_toStringS.f k l = some l := by
  rw [toStringS_eq l hl k hk]
  simp
theorem dig_one (c : Nat) (hc : c < 10) : strOfNums [(wrap64 (48 + (c : Int))) % 256] = (⟨#[UInt8.ofNat (48 + c)]⟩ : ByteArray) := by
  have e : (wrap64 (48 + (c : Int))) % 256 = ((48 + c : Nat) : Int) := by unfold wrap64; omega
  rw [e]
  unfold strOfNums
  rw [List.map_cons, List.map_nil, Int.toNat_natCast]
theorem mk_append (a b : List UInt8) : (⟨a.toArray⟩ : ByteArray) ++ (⟨b.toArray⟩ : ByteArray) = ⟨(a ++ b).toArray⟩ := by
  apply ByteArray.ext
  simp [ByteArray.data_append]
theorem dig_nat (d : Nat) : ∀ (k u : Nat), u < 10 ^ (d + 1) → u ≤ 9223372036854775807 → d < k → d < 100 → spec_l00Digits.f k (u : Int) = some ⟨(Lib.decDigits u).toArray⟩ ∧ (Lib.decDigits u).length ≤ d + 1 := by
  induction d with
  | zero =>
    intro k u hu h0 hk hd
    obtain ⟨k, rfl⟩ : ∃ m, k = m + 1 := ⟨k - 1, by omega⟩
    simp only [spec_l00Digits.f]
    rw [if_neg (by omega), if_neg (by omega), if_pos (by omega), dig_one u (by omega), Lib.decDigits_one (by omega)]
    exact ⟨rfl, by simp⟩
  | succ d ih =>
    intro k u hu h0 hk hd
    obtain ⟨k, rfl⟩ : ∃ m, k = m + 1 := ⟨k - 1, by omega⟩
    simp only [spec_l00Digits.f]
    by_cases h : u < 10
    · rw [if_neg (by omega), if_neg (by omega), if_pos (by omega), dig_one u h, Lib.decDigits_one h]
      exact ⟨rfl, by simp⟩
    · have hp : 10 ^ (d + 1 + 1) = 10 ^ (d + 1) * 10 := Nat.pow_succ ..
      have e1 : wrap64 (Int.tdiv (u : Int) 10) = ((u / 10 : Nat) : Int) := by
        have : Int.tdiv (u : Int) 10 = ((u / 10 : Nat) : Int) := by
          rw [Int.tdiv_eq_ediv_of_nonneg (by omega)]; rfl
        rw [this]; unfold wrap64; omega
      have e2 : Int.tmod (u : Int) 10 = ((u % 10 : Nat) : Int) := by
        rw [Int.tmod_eq_emod_of_nonneg (by omega)]; rfl
      obtain ⟨i1, i2⟩ := ih k (u / 10) (by omega) (by omega) (by omega) (by omega)
      rw [if_neg (by omega), if_neg (by omega), if_neg (by omega), e1, i1, e2]
      simp only [Option.bind_some]
      rw [dig_one (u % 10) (by omega), if_pos]
      · have hd : Lib.decDigits u = Lib.decDigits (u / 10) ++ [UInt8.ofNat (48 + u % 10)] := by
          conv => lhs; rw [Lib.decDigits]
          rw [dif_neg h]
        rw [hd, ← mk_append]
        refine ⟨rfl, ?_⟩
        rw [List.length_append, List.length_singleton]
        omega
      · show ((Lib.decDigits (u / 10)).toArray).size + 1 ≤ _
        rw [List.size_toArray]
        omega
theorem digits_eq (n : Int) (h0 : -9223372036854775808 ≤ n) (h1 : n ≤ 9223372036854775807) (k : Nat) (hk : 21 ≤ k) : spec_l00Digits.f k n = some ⟨(Lib.itoa n).toArray⟩ := by
  obtain ⟨k, rfl⟩ : ∃ m, k = m + 1 := ⟨k - 1, by omega⟩
  by_cases hn : n < 0
  · by_cases hm : n = -9223372036854775808
    · subst hm
      simp only [spec_l00Digits.f]
      rw [if_pos trivial]
      have e : Lib.itoa (-9223372036854775808) = 45 :: Lib.decDigits 9223372036854775808 := by unfold Lib.itoa; rw [if_pos (by decide)]; rfl
      have hq : Lib.decDigits 9223372036854775808 = Lib.decDigits 922337203685477580 ++ [UInt8.ofNat (48 + 8)] := by
        conv => lhs; rw [Lib.decDigits]
        rw [dif_neg (by decide)]
      rw [e, hq]
      simp [Lib.decDigits]
    · obtain ⟨u, rfl⟩ : ∃ u : Nat, n = -(u : Int) := ⟨n.natAbs, by omega⟩
      have e : wrap64 (-(-(u : Int))) = (u : Int) := by unfold wrap64; omega
      obtain ⟨i1, i2⟩ := dig_nat 19 k u (by omega) (by omega) (by omega) (by omega)
      simp only [spec_l00Digits.f]
      rw [if_neg hm, if_pos hn, e, i1]
      simp only [Option.bind_some]
      rw [if_pos]
      · have : Lib.itoa (-(u : Int)) = [45] ++ Lib.decDigits u := by unfold Lib.itoa; rw [if_pos hn]; simp
        rw [this, ← mk_append]
      · show 1 + ((Lib.decDigits u).toArray).size ≤ _
        rw [List.size_toArray]
        omega
  · obtain ⟨u, rfl⟩ : ∃ u : Nat, n = (u : Int) := ⟨n.toNat, by omega⟩
    rw [(dig_nat 19 (k + 1) u (by omega) (by omega) (by omega) (by omega)).1]
    have : Lib.itoa (u : Int) = Lib.decDigits u := by unfold Lib.itoa; rw [if_neg hn]; simp
    rw [this]
theorem itoa_size (n : Int) (h0 : -9223372036854775808 ≤ n) (h1 : n ≤ 9223372036854775807) : (⟨(Lib.itoa n).toArray⟩ : ByteArray).size ≤ 21 := by
  show ((Lib.itoa n).toArray).size ≤ 21
  rw [List.size_toArray]
  exact Lib.itoa_length_le n h0 h1
/-- the last w digits -/
def fw : Nat → Nat → List UInt8
  | 0, _ => []
  | w + 1, u => fw w (u / 10) ++ [UInt8.ofNat (48 + u % 10)]
theorem fw_length : ∀ w u, (fw w u).length = w
  | 0, _ => rfl
  | w + 1, u => by simp [fw, fw_length w]
theorem dec_step (u : Nat) (h : ¬ u < 10) : Lib.decDigits u = Lib.decDigits (u / 10) ++ [UInt8.ofNat (48 + u % 10)] := by
  conv => lhs; rw [Lib.decDigits]
  rw [dif_neg h]
theorem fw_dec : ∀ (w u : Nat), u < 10 ^ w → Lib.decDigits (10 ^ w + u) = 49 :: fw w u
  | 0, u, h => by
    obtain rfl : u = 0 := by simpa using h
    rw [Lib.decDigits_one (by decide)]
    rfl
  | w + 1, u, h => by
    have hp : 10 ^ (w + 1) = 10 ^ w * 10 := Nat.pow_succ ..
    have h1 : 1 ≤ 10 ^ w := Nat.one_le_pow _ _ (by decide)
    rw [dec_step _ (by omega), show (10 ^ (w + 1) + u) / 10 = 10 ^ w + u / 10 by omega, show (10 ^ (w + 1) + u) % 10 = u % 10 by omega, fw_dec w (u / 10) (by omega)]
    rfl
theorem fw_pad : ∀ (w u : Nat), u < 10 ^ (w + 1) → fw (w + 1) u = List.replicate (w + 1 - (Lib.decDigits u).length) 48 ++ Lib.decDigits u ∧ (Lib.decDigits u).length ≤ w + 1
  | 0, u, h => by
    have hu : u < 10 := by simpa using h
    rw [Lib.decDigits_one hu]
    simp [fw, Nat.mod_eq_of_lt hu]
  | w + 1, u, h => by
    have hp : 10 ^ (w + 1 + 1) = 10 ^ (w + 1) * 10 := Nat.pow_succ ..
    obtain ⟨i1, i2⟩ := fw_pad w (u / 10) (by omega)
    rw [fw, i1]
    by_cases hu : u < 10
    · have h0 : u / 10 = 0 := by omega
      rw [h0, Lib.decDigits_one (show 0 < 10 by decide), Lib.decDigits_one hu, Nat.mod_eq_of_lt hu]
      refine ⟨?_, by simp⟩
      have e : UInt8.ofNat (48 + 0) = 48 := rfl
      rw [e]
      simp only [List.length_singleton, Nat.add_sub_cancel]
      rw [show w + 1 = (w + 1) from rfl, List.replicate_succ' (n := w)]
    · rw [dec_step u hu]
      refine ⟨?_, by simp; omega⟩
      rw [List.length_append, List.length_singleton, ← List.append_assoc]
      congr 3
      omega
theorem wide_loop (d : Nat) : ∀ (k : Nat) (l : List UInt8), l.length ≤ 6 → 6 - l.length = d → d < k → spec_l03Wide.l0 k 6 ⟨l.toArray⟩ = some ⟨(List.replicate d 48 ++ l).toArray⟩ := by
  induction d with
  | zero =>
    intro k l hl hd hk
    obtain ⟨k, rfl⟩ : ∃ m, k = m + 1 := ⟨k - 1, by omega⟩
    simp only [spec_l03Wide.l0]
    rw [if_neg]
    · rfl
    · show ¬ ((l.toArray.size : Nat) : Int) < 6
      rw [List.size_toArray]; omega
  | succ d ih =>
    intro k l hl hd hk
    obtain ⟨k, rfl⟩ : ∃ m, k = m + 1 := ⟨k - 1, by omega⟩
    simp only [spec_l03Wide.l0]
    rw [if_pos, if_pos]
    · have e : (⟨#[48]⟩ : ByteArray) ++ (⟨l.toArray⟩ : ByteArray) = ⟨(48 :: l).toArray⟩ := mk_append [48] l
      rw [e, ih k (48 :: l) (by simp; omega) (by simp; omega) (by omega), List.replicate_succ', List.append_assoc]
      rfl
    · show 1 + l.toArray.size ≤ _
      rw [List.size_toArray]; omega
    · show ((l.toArray.size : Nat) : Int) < 6
      rw [List.size_toArray]; omega
def s6 (n : Int) : ByteArray := ⟨(fw 6 n.toNat).toArray⟩
theorem s6_size (n : Int) : (s6 n).size = 6 := by
  show (fw 6 n.toNat).toArray.size = 6
  rw [List.size_toArray, fw_length]
theorem wide_eq (n : Int) (h0 : 0 ≤ n) (h1 : n ≤ 999999) (k : Nat) (hk : 21 ≤ k) : spec_l03Wide.f k n 6 = some (s6 n) := by
  obtain ⟨u, rfl⟩ : ∃ u : Nat, n = (u : Int) := ⟨n.toNat, by omega⟩
  unfold spec_l03Wide.f
  rw [digits_eq _ (by omega) (by omega) k hk]
  simp only [Option.bind_some]
  have e : Lib.itoa (u : Int) = Lib.decDigits u := by unfold Lib.itoa; rw [if_neg (by omega)]; simp
  obtain ⟨p1, p2⟩ := fw_pad 5 u (by omega)
  rw [e, wide_loop (6 - (Lib.decDigits u).length) k _ p2 rfl (by omega)]
  unfold s6
  rw [Int.toNat_natCast, p1]
theorem six_eq (n : Int) (h0 : 0 ≤ n) (h1 : n ≤ 999999) : impl_six.f n = some (s6 n) := by
  obtain ⟨u, rfl⟩ : ∃ u : Nat, n = (u : Int) := ⟨n.toNat, by omega⟩
  have hw : wrap64 (1000000 + (u : Int)) = ((10 ^ 6 + u : Nat) : Int) := by unfold wrap64; omega
  unfold impl_six.f strconv_Itoa.f
  rw [hw, if_pos (by omega)]
  have e : Lib.itoa ((10 ^ 6 + u : Nat) : Int) = 49 :: fw 6 u := by
    unfold Lib.itoa
    rw [if_neg (by omega), Int.toNat_natCast, fw_dec 6 u (by omega)]
  simp only [Option.bind_some]
  rw [e]
  have hsz : (⟨(49 :: fw 6 u).toArray⟩ : ByteArray).size = 7 := by
    show (49 :: fw 6 u).toArray.size = 7
    rw [List.size_toArray, List.length_cons, fw_length]
  rw [hsz, if_pos (by decide)]
  unfold s6
  rw [Int.toNat_natCast]
  have hx : (⟨(49 :: fw 6 u).toArray⟩ : ByteArray).extract 1 7 = ⟨(fw 6 u).toArray⟩ := by
    apply ByteArray.ext
    rw [ByteArray.data_extract]
    simp [List.extract, fw_length]
    exact List.take_of_length_le (by rw [fw_length]; omega)
  rw [hx]
def pre3 (a : Int) : List UInt8 := if a = 0 then [114, 97, 119, 47] else if a = 1 then [116, 49, 47] else [116, 50, 47]
def keyB (a b c : Int) : ByteArray := ⟨(pre3 a ++ fw 6 b.toNat ++ [45] ++ fw 6 c.toNat).toArray⟩
theorem key_spec (a b c : Int) (h1 : 0 ≤ a ∧ a ≤ 2) (h2 : 0 ≤ b ∧ b ≤ 999999) (h3 : 0 ≤ c ∧ c ≤ 999999) (k : Nat) (hk : 21 ≤ k) : spec_l03Key.f k a b c = some (keyB a b c) := by
  unfold spec_l03Key.f
  rw [wide_eq b h2.1 h2.2 k hk, wide_eq c h3.1 h3.2 k hk]
  simp only [Option.bind_some]
  have hs := s6_size b
  have ht := s6_size c
  have hz : ∀ (l : List UInt8), (⟨l.toArray⟩ : ByteArray).size = l.length := fun l => by show l.toArray.size = _; rw [List.size_toArray]
  rw [if_pos h1.1, if_pos (by show a < (3 : Int); omega)]
  have hx : rdOf ByteArray.empty [(⟨#[114, 97, 119]⟩ : ByteArray), (⟨#[116, 49]⟩ : ByteArray), (⟨#[116, 50]⟩ : ByteArray)] a = if a = 0 then (⟨#[114, 97, 119]⟩ : ByteArray) else if a = 1 then (⟨#[116, 49]⟩ : ByteArray) else (⟨#[116, 50]⟩ : ByteArray) := by
    have : a = 0 ∨ a = 1 ∨ a = 2 := by omega
    rcases this with rfl | rfl | rfl <;> rfl
  rw [hx]
  have ex : (if a = 0 then (⟨#[114, 97, 119]⟩ : ByteArray) else if a = 1 then (⟨#[116, 49]⟩ : ByteArray) else (⟨#[116, 50]⟩ : ByteArray)) ++ (⟨#[47]⟩ : ByteArray) = ⟨(pre3 a).toArray⟩ := by
    unfold pre3
    split
    · rfl
    · split <;> rfl
  have hl : (pre3 a).length ≤ 4 := by
    unfold pre3
    split
    · decide
    · split <;> decide
  have hy : (if a = 0 then (⟨#[114, 97, 119]⟩ : ByteArray) else if a = 1 then (⟨#[116, 49]⟩ : ByteArray) else (⟨#[116, 50]⟩ : ByteArray)).size ≤ 3 := by
    split
    · decide
    · split <;> decide
  rw [if_pos (by omega), ex, if_pos (by rw [hz]; omega)]
  have e2 : (⟨(pre3 a).toArray⟩ : ByteArray) ++ s6 b = ⟨(pre3 a ++ fw 6 b.toNat).toArray⟩ := mk_append _ _
  have e3 : (⟨(pre3 a ++ fw 6 b.toNat).toArray⟩ : ByteArray) ++ (⟨#[45]⟩ : ByteArray) = ⟨(pre3 a ++ fw 6 b.toNat ++ [45]).toArray⟩ := mk_append _ [45]
  have e4 : (⟨(pre3 a ++ fw 6 b.toNat ++ [45]).toArray⟩ : ByteArray) ++ s6 c = keyB a b c := mk_append _ _
  rw [e2, if_pos (by rw [hz, List.length_append, fw_length]; omega), e3, if_pos (by rw [hz, List.length_append, List.length_append, fw_length, List.length_singleton]; omega), e4]
theorem size_mk (l : List UInt8) : (⟨l.toArray⟩ : ByteArray).size = l.length := by
  show l.toArray.size = l.length
  rw [List.size_toArray]
theorem mk_data (s : ByteArray) : (⟨s.data.toList.toArray⟩ : ByteArray) = s := by
  cases s
  simp
theorem bt_mk (l : List UInt8) (i : Nat) (h : i < l.length) : bt ⟨l.toArray⟩ (i : Int) = ((l[i].toNat : Nat) : Int) := by
  rw [← bt_at _ _ (by rw [Int.toNat_natCast, size_mk]; exact h)]
  simp only [Int.toNat_natCast]
  rfl
theorem extract_mk (l : List UInt8) (i : Nat) : (⟨l.toArray⟩ : ByteArray).extract i (⟨l.toArray⟩ : ByteArray).size = ⟨(l.drop i).toArray⟩ := by
  rw [size_mk]
  apply ByteArray.ext
  rw [ByteArray.data_extract]
  simp [List.extract, List.take_of_length_le]
def isDig (c : UInt8) : Bool := decide (48 ≤ c.toNat) && decide (c.toNat ≤ 57)
def dval (a : Nat) (l : List UInt8) : Nat := l.foldl (fun a c => a * 10 + (c.toNat - 48)) a
theorem dval_cons (a : Nat) (c : UInt8) (l : List UInt8) : dval a (c :: l) = dval (a * 10 + (c.toNat - 48)) l := by
  unfold dval
  rw [List.foldl_cons]
theorem dval_append (a : Nat) (l : List UInt8) (c : UInt8) : dval a (l ++ [c]) = dval a l * 10 + (c.toNat - 48) := by
  unfold dval
  rw [List.foldl_append, List.foldl_cons, List.foldl_nil]
theorem dval_ge (l : List UInt8) : ∀ a, a ≤ dval a l := by
  induction l with
  | nil => intro a; exact Nat.le_refl a
  | cons c l ih =>
    intro a
    rw [dval_cons]
    have := ih (a * 10 + (c.toNat - 48))
    omega
theorem dval_lt (l : List UInt8) : ∀ a, (l.all isDig) = true → dval a l < (a + 1) * 10 ^ l.length := by
  induction l with
  | nil => intro a _; simp [dval]
  | cons c l ih =>
    intro a h
    rw [List.all_cons, Bool.and_eq_true] at h
    have h1 : c.toNat ≤ 57 := by have := h.1; simp [isDig] at this; omega
    have := ih (a * 10 + (c.toNat - 48)) h.2
    rw [dval_cons, List.length_cons, Nat.pow_succ]
    refine Nat.lt_of_lt_of_le this ?_
    have e : (a + 1) * (10 ^ l.length * 10) = ((a + 1) * 10) * 10 ^ l.length := by rw [Nat.mul_comm (10 ^ l.length) 10, Nat.mul_assoc]
    rw [e]
    exact Nat.mul_le_mul_right _ (by omega)
theorem parse_ok (l : List UInt8) : ∀ a, (l.all isDig) = true → dval a l ≤ 1000000000000000000 → Lib.parseUint10 a l = .ok (dval a l) := by
  induction l with
  | nil => intro a _ _; rfl
  | cons c l ih =>
    intro a h hb
    rw [List.all_cons, Bool.and_eq_true] at h
    have hc : 48 ≤ c.toNat ∧ c.toNat ≤ 57 := by have := h.1; simp [isDig] at this; omega
    rw [dval_cons] at hb ⊢
    have hg := dval_ge l (a * 10 + (c.toNat - 48))
    simp only [Lib.parseUint10]
    rw [if_pos hc, if_neg (by omega), if_neg (by omega)]
    exact ih _ h.2 hb
theorem ofNat_toNat (n : Nat) (h : n < 256) : (UInt8.ofNat n).toNat = n := by
  simp only [UInt8.toNat_ofNat']
  omega
theorem dec_dig (d : Nat) : ∀ u, u ≤ d → ((Lib.decDigits u).all isDig) = true ∧ dval 0 (Lib.decDigits u) = u ∧ Lib.decDigits u ≠ [] := by
  induction d with
  | zero =>
    intro u h
    obtain rfl : u = 0 := by omega
    rw [Lib.decDigits_one (by decide)]
    exact ⟨by decide, by decide, by simp⟩
  | succ d ih =>
    intro u h
    by_cases hu : u < 10
    · rw [Lib.decDigits_one hu]
      have e := ofNat_toNat (48 + u) (by omega)
      refine ⟨?_, ?_, by simp⟩
      · simp only [List.all_cons, List.all_nil, Bool.and_true, isDig, e]
        simp
        omega
      · show 0 * 10 + ((UInt8.ofNat (48 + u)).toNat - 48) = u
        rw [e]; omega
    · have hs : Lib.decDigits u = Lib.decDigits (u / 10) ++ [UInt8.ofNat (48 + u % 10)] := by
        conv => lhs; rw [Lib.decDigits]
        rw [dif_neg hu]
      obtain ⟨i1, i2, i3⟩ := ih (u / 10) (by omega)
      have e := ofNat_toNat (48 + u % 10) (by omega)
      rw [hs]
      refine ⟨?_, ?_, by simp⟩
      · rw [List.all_append, i1]
        simp only [List.all_cons, List.all_nil, Bool.and_true, isDig, e, Bool.true_and]
        simp
        omega
      · rw [dval_append, i2, e]; omega
theorem dec_head (d : Nat) : ∀ u, u ≤ d → 1 ≤ u → ∃ c l, Lib.decDigits u = c :: l ∧ c.toNat ≠ 48 := by
  induction d with
  | zero => intro u h h1; omega
  | succ d ih =>
    intro u h h1
    by_cases hu : u < 10
    · rw [Lib.decDigits_one hu]
      exact ⟨_, _, rfl, by rw [ofNat_toNat _ (by omega)]; omega⟩
    · have hs : Lib.decDigits u = Lib.decDigits (u / 10) ++ [UInt8.ofNat (48 + u % 10)] := by
        conv => lhs; rw [Lib.decDigits]
        rw [dif_neg hu]
      obtain ⟨c, l, e, hc⟩ := ih (u / 10) (by omega) (by omega)
      rw [hs, e]
      exact ⟨c, _, rfl, hc⟩
/-- the digits of a number below 10^w are at most w -/
theorem dec_len (w : Nat) : ∀ u, u < 10 ^ (w + 1) → (Lib.decDigits u).length ≤ w + 1 := by
  induction w with
  | zero => intro u h; rw [Lib.decDigits_one (by simpa using h)]; simp
  | succ w ih =>
    intro u h
    have hp : 10 ^ (w + 1 + 1) = 10 ^ (w + 1) * 10 := Nat.pow_succ ..
    by_cases hu : u < 10
    · rw [Lib.decDigits_one hu]; simp
    · have hs : Lib.decDigits u = Lib.decDigits (u / 10) ++ [UInt8.ofNat (48 + u % 10)] := by
        conv => lhs; rw [Lib.decDigits]
        rw [dif_neg hu]
      rw [hs, List.length_append, List.length_singleton]
      have := ih (u / 10) (by omega)
      omega
theorem itoa_of_nat (u : Nat) : Lib.itoa (u : Int) = Lib.decDigits u := by unfold Lib.itoa; rw [if_neg (by omega)]; simp
theorem itoa_of_neg (u : Nat) (h : 1 ≤ u) : Lib.itoa (-(u : Int)) = 45 :: Lib.decDigits u := by unfold Lib.itoa; rw [if_pos (by omega)]; simp
/-- what is told of a number of at most 18 digits is read again -/
theorem atoi_itoa (v : Int) (h0 : -1000000000000000000 < v) (h1 : v < 1000000000000000000) : Lib.atoiAll (Lib.itoa v) = .ok v := by
  by_cases hv : v < 0
  · obtain ⟨u, rfl⟩ : ∃ u : Nat, v = -(u : Int) := ⟨v.natAbs, by omega⟩
    rw [itoa_of_neg u (by omega), Lib.atoiAll_minus]
    obtain ⟨i1, i2, i3⟩ := dec_dig u u (Nat.le_refl u)
    have hp : Lib.parseMag (Lib.decDigits u) = .ok u := by
      unfold Lib.parseMag
      rw [if_neg i3, parse_ok _ 0 i1 (by rw [i2]; omega), i2]
    rw [hp]
    unfold Lib.signed
    simp only
    rw [if_neg (by omega)]
  · obtain ⟨u, rfl⟩ : ∃ u : Nat, v = (u : Int) := ⟨v.toNat, by omega⟩
    rw [itoa_of_nat u]
    obtain ⟨i1, i2, i3⟩ := dec_dig u u (Nat.le_refl u)
    have hp : Lib.parseMag (Lib.decDigits u) = .ok u := by
      unfold Lib.parseMag
      rw [if_neg i3, parse_ok _ 0 i1 (by rw [i2]; omega), i2]
    cases hd : Lib.decDigits u with
    | nil => exact absurd hd i3
    | cons c r =>
      rw [hd] at i1 hp
      have hc : 48 ≤ c.toNat := by rw [List.all_cons, Bool.and_eq_true] at i1; have := i1.1; simp [isDig] at this; omega
      rw [Lib.atoiAll_plain c r (by omega) (by omega), hp]
      unfold Lib.signless
      simp only
      rw [if_neg (by omega)]
theorem wrap_id (n : Int) (h0 : -9223372036854775808 ≤ n) (h1 : n ≤ 9223372036854775807) : wrap64 n = n := by
  unfold wrap64
  omega
/-- a list parted at each c -/
def pieces (c : UInt8) : List UInt8 → List (List UInt8)
  | [] => [[]]
  | b :: l => if b = c then [] :: pieces c l else match pieces c l with
    | p :: ps => (b :: p) :: ps
    | [] => [[b]]
theorem pieces_ne (c : UInt8) : ∀ l, pieces c l ≠ []
  | [] => by simp [pieces]
  | b :: l => by
    unfold pieces
    split
    · simp
    · split <;> simp
theorem pieces_len (c : UInt8) : ∀ l, (pieces c l).length ≤ l.length + 1
  | [] => by simp [pieces]
  | b :: l => by
    have ih := pieces_len c l
    unfold pieces
    split
    · simp only [List.length_cons]; omega
    · split
      · rename_i p ps h; rw [h] at ih; simp only [List.length_cons] at ih ⊢; omega
      · simp
theorem pieces_bytes (c : UInt8) : ∀ l, ∀ p ∈ pieces c l, p.length ≤ l.length
  | [], p, hp => by simp [pieces] at hp; simp [hp]
  | b :: l, p, hp => by
    have ih := pieces_bytes c l
    unfold pieces at hp
    split at hp
    · rcases List.mem_cons.1 hp with rfl | hp
      · simp
      · have := ih p hp; simp only [List.length_cons]; omega
    · split at hp
      · rename_i q qs h
        rw [h] at ih
        rcases List.mem_cons.1 hp with rfl | hp
        · have := ih q (by simp); simp only [List.length_cons]; omega
        · have := ih p (by simp [hp]); simp only [List.length_cons]; omega
      · simp at hp; subst hp; simp
theorem pieces_app (c : UInt8) (b : List UInt8) : ∀ a, c ∉ a → pieces c (a ++ c :: b) = a :: pieces c b
  | [], _ => by simp [pieces]
  | x :: a, h => by
    have hx : ¬ x = c := fun e => h (by simp [e])
    have ih := pieces_app c b a (fun e => h (by simp [e]))
    show pieces c (x :: (a ++ c :: b)) = _
    rw [pieces, if_neg hx, ih]
theorem pieces_none (c : UInt8) : ∀ a, c ∉ a → pieces c a = [a]
  | [], _ => rfl
  | x :: a, h => by
    have hx : ¬ x = c := fun e => h (by simp [e])
    have ih := pieces_none c a (fun e => h (by simp [e]))
    rw [pieces, if_neg hx, ih]
theorem index_one (c : UInt8) : ∀ l, (Lib.index l [c] = -1 ∧ c ∉ l) ∨ (∃ i : Nat, Lib.index l [c] = i ∧ i < l.length ∧ c ∉ l.take i ∧ l = l.take i ++ c :: l.drop (i + 1))
  | [] => .inl ⟨rfl, by simp⟩
  | b :: l => by
    unfold Lib.index
    by_cases hb : b = c
    · subst hb
      refine .inr ⟨0, ?_, by simp, by simp, by simp⟩
      rw [if_pos (by simp)]
      rfl
    · rw [if_neg (by simp [List.isPrefixOf]; exact fun e => hb e.symm)]
      rcases index_one c l with ⟨h1, h2⟩ | ⟨i, h1, h2, h3, h4⟩
      · refine .inl ⟨by rw [h1]; rfl, ?_⟩
        rintro h
        rcases List.mem_cons.1 h with e | h
        · exact hb e.symm
        · exact h2 h
      · refine .inr ⟨i + 1, ?_, by simp only [List.length_cons]; omega, ?_, ?_⟩
        · rw [h1, if_neg (by rw [beq_iff_eq]; omega)]
          rfl
        · rw [List.take_succ_cons]
          rintro h
          rcases List.mem_cons.1 h with e | h
          · exact hb e.symm
          · exact h3 h
        · rw [List.take_succ_cons, List.drop_succ_cons, List.cons_append, ← h4]
theorem extract_take (l : List UInt8) (i : Nat) : (⟨l.toArray⟩ : ByteArray).extract 0 i = ⟨(l.take i).toArray⟩ := by
  apply ByteArray.ext
  rw [ByteArray.data_extract]
  simp [List.extract]
theorem splitB_pieces (c : UInt8) : ∀ (m : Nat) (l : List UInt8),
    ((pieces c l).length ≤ m + 1 → Lib.splitB ⟨#[c]⟩ 0 m ⟨l.toArray⟩ = (pieces c l).map fun p => (⟨p.toArray⟩ : ByteArray)) ∧ (m + 1 < (pieces c l).length → (Lib.splitB ⟨#[c]⟩ 0 m ⟨l.toArray⟩).length = m + 1)
  | 0, l => by
    refine ⟨fun h => ?_, fun _ => rfl⟩
    rcases index_one c l with ⟨h1, h2⟩ | ⟨i, h1, h2, h3, h4⟩
    · rw [pieces_none c l h2]; rfl
    · rw [h4, pieces_app c _ _ h3] at h
      have := pieces_ne c (l.drop (i + 1))
      have : 0 < (pieces c (l.drop (i + 1))).length := List.length_pos_iff.2 this
      simp only [List.length_cons] at h
      omega
  | m + 1, l => by
    have hB : Lib.indexB (⟨l.toArray⟩ : ByteArray) ⟨#[c]⟩ = Lib.index l [c] := rfl
    rcases index_one c l with ⟨h1, h2⟩ | ⟨i, h1, h2, h3, h4⟩
    · rw [Lib.splitB_miss _ _ _ _ (by rw [hB, h1]), pieces_none c l h2]
      exact ⟨fun _ => rfl, fun h => by simp at h⟩
    · rw [Lib.splitB_hit _ _ _ _ i (by rw [hB, h1])]
      have ih := splitB_pieces c m (l.drop (i + 1))
      have e1 : (⟨l.toArray⟩ : ByteArray).extract 0 (i + 0) = ⟨(l.take i).toArray⟩ := extract_take l i
      have e2 : (⟨l.toArray⟩ : ByteArray).extract (i + (⟨#[c]⟩ : ByteArray).size) (⟨l.toArray⟩ : ByteArray).size = ⟨(l.drop (i + 1)).toArray⟩ := extract_mk l (i + 1)
      rw [e1, e2]
      have hp : pieces c l = l.take i :: pieces c (l.drop (i + 1)) := by
        conv => lhs; rw [h4]
        exact pieces_app c _ _ h3
      rw [hp]
      simp only [List.length_cons, List.map_cons]
      refine ⟨fun h => ?_, fun h => ?_⟩
      · rw [ih.1 (by omega)]
      · rw [ih.2 (by omega)]
theorem splitB_size (c : UInt8) : ∀ (m : Nat) (l : List UInt8), ∀ p ∈ Lib.splitB ⟨#[c]⟩ 0 m ⟨l.toArray⟩, p.size ≤ l.length
  | 0, l, p, hp => by
    rw [Lib.splitB_zero] at hp
    rw [List.mem_singleton.1 hp, size_mk]
    exact Nat.le_refl _
  | m + 1, l, p, hp => by
    have hB : Lib.indexB (⟨l.toArray⟩ : ByteArray) ⟨#[c]⟩ = Lib.index l [c] := rfl
    rcases index_one c l with ⟨h1, h2⟩ | ⟨i, h1, h2, h3, h4⟩
    · rw [Lib.splitB_miss _ _ _ _ (by rw [hB, h1])] at hp
      rw [List.mem_singleton.1 hp, size_mk]
      exact Nat.le_refl _
    · rw [Lib.splitB_hit _ _ _ _ i (by rw [hB, h1])] at hp
      have e1 : (⟨l.toArray⟩ : ByteArray).extract 0 (i + 0) = ⟨(l.take i).toArray⟩ := extract_take l i
      have e2 : (⟨l.toArray⟩ : ByteArray).extract (i + (⟨#[c]⟩ : ByteArray).size) (⟨l.toArray⟩ : ByteArray).size = ⟨(l.drop (i + 1)).toArray⟩ := extract_mk l (i + 1)
      rw [e1, e2] at hp
      rcases List.mem_cons.1 hp with rfl | hp
      · rw [size_mk, List.length_take]; omega
      · have := splitB_size c m _ p hp
        rw [List.length_drop] at this
        omega
def mkP (l : List (List UInt8)) : List ByteArray := l.map fun p => (⟨p.toArray⟩ : ByteArray)
def joinH (p : List UInt8) : List (List UInt8) → List (List UInt8)
  | q :: qs => (p ++ q) :: qs
  | [] => [p]
theorem extract_mid (l : List UInt8) (i j : Nat) : (⟨l.toArray⟩ : ByteArray).extract i j = ⟨((l.drop i).take (j - i)).toArray⟩ := by
  apply ByteArray.ext
  rw [ByteArray.data_extract]
  simp [List.extract, List.take_drop]
theorem cut_loop (c : UInt8) (l : List UInt8) (hl : l.length ≤ 1048576) (d : Nat) : ∀ (k i f : Nat) (out : List ByteArray), i ≤ l.length → f ≤ i → out.length ≤ i → l.length - i = d → d < k →
    spec_l00Cut.l0 k ⟨l.toArray⟩ ((c.toNat : Nat) : Int) out (f : Int) (i : Int) = some (out ++ mkP (joinH ((l.drop f).take (i - f)) (pieces c (l.drop i)))) := by
  induction d with
  | zero =>
    intro k i f out hi hf ho hd hk
    obtain ⟨k, rfl⟩ : ∃ m, k = m + 1 := ⟨k - 1, by omega⟩
    obtain rfl : i = l.length := by omega
    simp only [spec_l00Cut.l0]
    rw [if_neg (by rw [size_mk]; omega), if_pos (by omega), if_pos (by rw [size_mk]; omega), if_pos (by omega), List.drop_length, Int.toNat_natCast, extract_mk]
    simp [pieces, joinH, mkP, List.take_of_length_le]
  | succ d ih =>
    intro k i f out hi hf ho hd hk
    obtain ⟨k, rfl⟩ : ∃ m, k = m + 1 := ⟨k - 1, by omega⟩
    have hlt : i < l.length := by omega
    have hb := bt_mk l i hlt
    have hdr := List.drop_eq_getElem_cons hlt
    have hw : wrap64 ((i : Int) + 1) = ((i + 1 : Nat) : Int) := by unfold wrap64; omega
    simp only [spec_l00Cut.l0]
    rw [if_pos (by rw [size_mk]; omega), if_pos (by omega), hb, hdr, hw]
    by_cases hc : l[i] = c
    · rw [if_pos (by rw [hc]), if_pos (by omega), if_pos (by omega), if_pos (by rw [size_mk]; omega), if_pos (by omega), Int.toNat_natCast, Int.toNat_natCast, extract_mid,
        ih k (i + 1) (i + 1) _ (by omega) (by omega) (by rw [List.length_append, List.length_singleton]; omega) (by omega) (by omega)]
      rw [pieces, if_pos hc, Nat.sub_self, List.take_zero]
      cases hp : pieces c (l.drop (i + 1)) with
      | nil => exact absurd hp (pieces_ne c _)
      | cons p ps => simp [joinH, mkP]
    · have hn : ¬ ((l[i].toNat : Nat) : Int) = ((c.toNat : Nat) : Int) := fun e => hc (UInt8.toNat_inj.1 (by omega))
      rw [if_neg hn, ih k (i + 1) f out (by omega) (by omega) (by omega) (by omega) (by omega)]
      rw [pieces, if_neg hc]
      have ht : (l.drop f).take (i + 1 - f) = (l.drop f).take (i - f) ++ [l[i]] := by
        rw [show i + 1 - f = (i - f) + 1 by omega, List.take_succ_eq_append_getElem (by rw [List.length_drop]; omega)]
        congr 2
        rw [List.getElem_drop]
        congr 1
        omega
      rw [ht]
      cases hp : pieces c (l.drop (i + 1)) with
      | nil => exact absurd hp (pieces_ne c _)
      | cons p ps => simp [joinH, mkP]
theorem cut_eq (s : ByteArray) (c : UInt8) (hs : s.size ≤ 1048576) (k : Nat) (hk : s.size < k) : spec_l00Cut.f k s ((c.toNat : Nat) : Int) = some (mkP (pieces c s.data.toList)) := by
  unfold spec_l00Cut.f
  have hsz : s.size = s.data.toList.length := by rw [Array.length_toList]; rfl
  have h := cut_loop c s.data.toList (by omega) s.data.toList.length k 0 0 [] (by omega) (by omega) (by simp) (by omega) (by omega)
  rw [mk_data] at h
  rw [show ((0 : Nat) : Int) = 0 from rfl] at h
  rw [h, List.drop_zero, Nat.sub_self, List.take_zero]
  cases hp : pieces c s.data.toList with
  | nil => exact absurd hp (pieces_ne c _)
  | cons p ps => simp [joinH]
def isKey (s : ByteArray) (a b c : Int) : Prop := (0 ≤ a ∧ a ≤ 2) ∧ (0 ≤ b ∧ b ≤ 999999) ∧ (0 ≤ c ∧ c ≤ 999999) ∧ s = keyB a b c
theorem keyok_eq (a b c : Int) : ∃ r, spec_l03KeyOK.f a b c = some r ∧ (r = true ↔ (0 ≤ a ∧ a ≤ 2) ∧ (0 ≤ b ∧ b ≤ 999999) ∧ (0 ≤ c ∧ c ≤ 999999)) := by
  unfold spec_l03KeyOK.f
  simp only [in_eq, Option.bind_some]
  by_cases h1 : 0 ≤ a ∧ a ≤ 2
  · have e1 : (decide (0 ≤ a) && decide (a ≤ 2)) = true := by simp [h1]
    rw [e1, if_pos rfl]
    by_cases h2 : 0 ≤ b ∧ b ≤ 999999
    · have e2 : (decide (0 ≤ b) && decide (b ≤ 999999)) = true := by simp [h2]
      rw [e2, if_pos rfl]
      exact ⟨_, rfl, by rw [Bool.and_eq_true, decide_eq_true_eq, decide_eq_true_eq]; exact ⟨fun h => ⟨h1, h2, h⟩, fun h => h.2.2⟩⟩
    · have e2 : (decide (0 ≤ b) && decide (b ≤ 999999)) = false := by
        rw [Bool.and_eq_false_iff, decide_eq_false_iff_not, decide_eq_false_iff_not]; omega
      rw [e2]
      exact ⟨false, by simp, by simp; intro _ _ h3 h4; exact absurd ⟨h3, h4⟩ h2⟩
  · have e1 : (decide (0 ≤ a) && decide (a ≤ 2)) = false := by
      rw [Bool.and_eq_false_iff, decide_eq_false_iff_not, decide_eq_false_iff_not]; omega
    rw [e1]
    exact ⟨false, by simp, by simp; intro h3 h4; exact absurd ⟨h3, h4⟩ h1⟩
theorem fw_dig : ∀ w u, (fw w u).all isDig = true ∧ dval 0 (fw w u) = u % 10 ^ w
  | 0, u => ⟨rfl, by simp [fw, dval, Nat.mod_one]⟩
  | w + 1, u => by
    obtain ⟨i1, i2⟩ := fw_dig w (u / 10)
    have e := ofNat_toNat (48 + u % 10) (by omega)
    rw [fw]
    refine ⟨?_, ?_⟩
    · rw [List.all_append, i1]
      simp only [List.all_cons, List.all_nil, Bool.and_true, isDig, e, Bool.true_and]
      simp
      omega
    · rw [dval_append, i2, e, Nat.pow_succ, Nat.mul_comm (10 ^ w) 10, Nat.mod_mul]
      omega
theorem fw_not (x : UInt8) (hx : isDig x = false) (w u : Nat) : x ∉ fw w u := fun h => by
  have := List.all_eq_true.1 (fw_dig w u).1 x h
  rw [hx] at this
  cases this
theorem digit_eq (c : UInt8) : spec_l00Digit.f ((c.toNat : Nat) : Int) = some (isDig c) := by
  unfold spec_l00Digit.f isDig
  by_cases h : ((c.toNat : Nat) : Int) ≥ 48
  · rw [if_pos h, show decide (48 ≤ c.toNat) = true from decide_eq_true (by omega), Bool.true_and]
    congr 1
    by_cases h2 : c.toNat ≤ 57
    · rw [decide_eq_true (by omega), decide_eq_true h2]
    · rw [decide_eq_false (by omega), decide_eq_false h2]
  · rw [if_neg h, show decide (48 ≤ c.toNat) = false from decide_eq_false (by omega), Bool.false_and]
theorem fixed_total (l : List UInt8) (hl : l.length ≤ 1048576) (d : Nat) : ∀ (k i : Nat) (x : Int), i ≤ l.length → l.length - i = d → d < k → ∃ n b, spec_l03Fixed.l0 k ⟨l.toArray⟩ x (i : Int) = some (n, b) := by
  induction d with
  | zero =>
    intro k i x hi hd hk
    obtain ⟨k, rfl⟩ : ∃ m, k = m + 1 := ⟨k - 1, by omega⟩
    simp only [spec_l03Fixed.l0]
    rw [if_neg (by rw [size_mk]; omega)]
    exact ⟨_, _, rfl⟩
  | succ d ih =>
    intro k i x hi hd hk
    obtain ⟨k, rfl⟩ : ∃ m, k = m + 1 := ⟨k - 1, by omega⟩
    have hlt : i < l.length := by omega
    have hw : wrap64 ((i : Int) + 1) = ((i + 1 : Nat) : Int) := by unfold wrap64; omega
    simp only [spec_l03Fixed.l0]
    rw [if_pos (by rw [size_mk]; omega), if_pos (by omega), bt_mk l i hlt, digit_eq, hw]
    simp only [Option.bind_some]
    cases isDig l[i] with
    | false => exact ⟨0, false, by simp⟩
    | true => simp only [if_true]; exact ih k (i + 1) _ (by omega) (by omega) (by omega)
theorem fixed_six (l : List UInt8) (hl : l.length ≤ 6) (ha : l.all isDig = true) (d : Nat) : ∀ (k i a : Nat), i ≤ l.length → l.length - i = d → d < k → a < 10 ^ i → spec_l03Fixed.l0 k ⟨l.toArray⟩ (a : Int) (i : Int) = some ((dval a (l.drop i) : Int), true) := by
  induction d with
  | zero =>
    intro k i a hi hd hk _
    obtain ⟨k, rfl⟩ : ∃ m, k = m + 1 := ⟨k - 1, by omega⟩
    simp only [spec_l03Fixed.l0]
    rw [if_neg (by rw [size_mk]; omega), List.drop_of_length_le (by omega)]
    rfl
  | succ d ih =>
    intro k i a hi hd hk ha2
    obtain ⟨k, rfl⟩ : ∃ m, k = m + 1 := ⟨k - 1, by omega⟩
    have hlt : i < l.length := by omega
    have hp : 10 ^ i ≤ 100000 := by have := Nat.pow_le_pow_right (n := 10) (by decide) (show i ≤ 5 by omega); simpa using this
    have hps : 10 ^ (i + 1) = 10 ^ i * 10 := Nat.pow_succ ..
    have hdr := List.drop_eq_getElem_cons hlt
    have hc : isDig l[i] = true := List.all_eq_true.1 ha _ (List.getElem_mem hlt)
    simp only [spec_l03Fixed.l0]
    rw [if_pos (by rw [size_mk]; omega), if_pos (by omega), bt_mk l i hlt, digit_eq, hdr]
    generalize l[i] = c at hc ⊢
    have hc1 : 48 ≤ c.toNat ∧ c.toNat ≤ 57 := by simp [isDig] at hc; omega
    rw [hc]
    simp only [Option.bind_some, if_true]
    have hx : a * 10 + (c.toNat - 48) < 10 ^ (i + 1) := by rw [hps]; omega
    have ih' := ih k (i + 1) (a * 10 + (c.toNat - 48)) (by omega) (by omega) (by omega) hx
    have a5 : a < 100000 := by omega
    clear ih hx hps hp ha2
    have e1 : wrap64 ((wrap64 (10 * (a : Int))) + ((((c.toNat : Nat) : Int) - 48) % 256)) = ((a * 10 + (c.toNat - 48) : Nat) : Int) := by
      clear ih'
      rw [wrap_id (10 * (a : Int)) (by omega) (by omega), wrap_id (10 * (a : Int) + ((((c.toNat : Nat) : Int) - 48) % 256)) (by omega) (by omega)]
      omega
    have e2 : wrap64 ((i : Int) + 1) = ((i + 1 : Nat) : Int) := by clear e1; rw [wrap_id ((i : Int) + 1) (by omega) (by omega)]; omega
    rw [e1, e2, ih', dval_cons]
theorem fixed_fw (u : Nat) (hu : u < 1000000) (k : Nat) (hk : 7 ≤ k) : spec_l03Fixed.f k ⟨(fw 6 u).toArray⟩ = some ((u : Int), true) := by
  obtain ⟨h1, h2⟩ := fw_dig 6 u
  have h := fixed_six (fw 6 u) (by rw [fw_length]; omega) h1 6 k 0 0 (by omega) (by rw [fw_length]) (by omega) (by simp)
  rw [show ((0 : Nat) : Int) = 0 from rfl, List.drop_zero, h2, Nat.mod_eq_of_lt (by simpa using hu)] at h
  exact h
def preB (a : Int) : List UInt8 := if a = 0 then [114, 97, 119] else if a = 1 then [116, 49] else [116, 50]
theorem pre3_eq (a : Int) : pre3 a = preB a ++ [47] := by
  unfold pre3 preB
  split
  · rfl
  · split <;> rfl
theorem key_pieces (a b c : Int) : pieces 47 (keyB a b c).data.toList = [preB a, fw 6 b.toNat ++ [45] ++ fw 6 c.toNat] := by
  have e : (keyB a b c).data.toList = preB a ++ 47 :: (fw 6 b.toNat ++ [45] ++ fw 6 c.toNat) := by
    show pre3 a ++ fw 6 b.toNat ++ [45] ++ fw 6 c.toNat = _
    rw [pre3_eq]
    simp
  have h1 : (47 : UInt8) ∉ preB a := by
    unfold preB
    split
    · decide
    · split <;> decide
  have h2 : (47 : UInt8) ∉ fw 6 b.toNat ++ [45] ++ fw 6 c.toNat := by
    simp only [List.mem_append, List.mem_singleton, not_or]
    exact ⟨⟨fw_not 47 rfl _ _, by decide⟩, fw_not 47 rfl _ _⟩
  rw [e, pieces_app 47 _ _ h1, pieces_none 47 _ h2]
theorem extract_six (l : List UInt8) : (⟨l.toArray⟩ : ByteArray).extract 0 6 = ⟨(l.take 6).toArray⟩ := extract_take l 6
theorem spec_key_at (s : ByteArray) (x y : List UInt8) (hs : s.size ≤ 1048576) (hp : pieces 47 s.data.toList = [x, y]) (h13 : y.length = 13) (h6 : y[6]'(by omega) = 45) (k : Nat) (hk : s.size + 40 < k) (n1 n2 : Int) (b1 b2 : Bool)
    (e1 : spec_l03Fixed.f k ⟨(y.take 6).toArray⟩ = some (n1, b1)) (e2 : spec_l03Fixed.f k ⟨(y.drop 7).toArray⟩ = some (n2, b2)) : ∃ t : Int, t = (if x = [116, 49] then 1 else if x = [116, 50] then 2 else 0) ∧
    spec_l03ToKey.f (k + 1) s = (if b1 = true then if b2 = true then if ((0 ≤ t ∧ t ≤ 2) ∧ (0 ≤ n1 ∧ n1 ≤ 999999) ∧ (0 ≤ n2 ∧ n2 ≤ 999999)) ∧ s = keyB t n1 n2 then some (t, n1, n2, true) else some (0, 0, 0, false) else some (0, 0, 0, false) else some (0, 0, 0, false)) := by
  refine ⟨_, rfl, ?_⟩
  unfold spec_l03ToKey.f
  have hc := cut_eq s 47 hs (k + 1) (by omega)
  have hc2 : (((47 : UInt8).toNat : Nat) : Int) = 47 := rfl
  rw [hc2] at hc
  rw [hc, hp]
  simp only [Option.bind_some]
  have g0 : rdOf ByteArray.empty (mkP [x, y]) 0 = ⟨x.toArray⟩ := rfl
  have g1 : rdOf ByteArray.empty (mkP [x, y]) 1 = ⟨y.toArray⟩ := rfl
  have gl : ((mkP [x, y]).length : Int) = 2 := rfl
  have gs : ((⟨y.toArray⟩ : ByteArray).size : Int) = 13 := by rw [size_mk, h13]; rfl
  have gb : bt ⟨y.toArray⟩ 6 = 45 := by
    have := bt_mk y 6 (by omega)
    rw [show ((6 : Nat) : Int) = 6 from rfl] at this
    rw [this, h6]; rfl
  rw [gl, g1, gs, gb, if_pos (by decide), if_pos (by decide), if_pos (by decide), if_pos (by decide)]
  simp only [spec_l03ToKey.j0, gl, g0, g1, gs]
  rw [if_neg (by decide), if_pos (by decide)]
  have hx1 : spec_l01Bit.f ((⟨x.toArray⟩ : ByteArray).toList == ([116, 49] : List UInt8)) = some (if x = [116, 49] then 1 else 0) := by
    unfold spec_l01Bit.f
    rw [ByteArray.toList_mk]
    by_cases h : x = [116, 49] <;> simp [h]
  have hx2 : spec_l01Bit.f ((⟨x.toArray⟩ : ByteArray).toList == ([116, 50] : List UInt8)) = some (if x = [116, 50] then 1 else 0) := by
    unfold spec_l01Bit.f
    rw [ByteArray.toList_mk]
    by_cases h : x = [116, 50] <;> simp [h]
  have ex7 : (⟨y.toArray⟩ : ByteArray).extract 7 (⟨y.toArray⟩ : ByteArray).size = ⟨(y.drop 7).toArray⟩ := extract_mk y 7
  rw [hx1, hx2, extract_six, ex7]
  simp only [Option.bind_some]
  rw [if_pos (by decide), if_pos (by decide), if_pos (by decide), e1]
  simp only [Option.bind_some]
  rw [if_pos (by decide), e2]
  simp only [Option.bind_some]
  have ht : wrap64 ((if x = [116, 49] then (1 : Int) else 0) + wrap64 (2 * (if x = [116, 50] then (1 : Int) else 0))) = (if x = [116, 49] then 1 else if x = [116, 50] then 2 else 0) := by
    by_cases h1 : x = [116, 49]
    · subst h1; rw [if_pos rfl, if_neg (by decide), if_pos rfl]; unfold wrap64; omega
    · rw [if_neg h1, if_neg h1]
      by_cases h2 : x = [116, 50]
      · rw [if_pos h2, if_pos h2]; unfold wrap64; omega
      · rw [if_neg h2, if_neg h2]; unfold wrap64; omega
  rw [ht]
  generalize (if x = [116, 49] then (1 : Int) else if x = [116, 50] then 2 else 0) = t
  cases b1 with
  | false => simp
  | true =>
    cases b2 with
    | false => simp
    | true =>
      simp only [if_true]
      obtain ⟨r, k1, k2⟩ := keyok_eq t n1 n2
      rw [k1]
      simp only [Option.bind_some]
      cases r with
      | false =>
        have : ¬ ((0 ≤ t ∧ t ≤ 2) ∧ (0 ≤ n1 ∧ n1 ≤ 999999) ∧ (0 ≤ n2 ∧ n2 ≤ 999999)) := fun h => by have := k2.2 h; cases this
        simp only [Bool.false_eq_true, if_false]
        rw [if_neg (fun h => this h.1)]
      | true =>
        have hr := k2.1 rfl
        simp only [if_true]
        rw [key_spec t n1 n2 hr.1 hr.2.1 hr.2.2 k (by omega)]
        simp only [Option.bind_some]
        by_cases he : (keyB t n1 n2).toList = s.toList
        · have hs2 : s = keyB t n1 n2 := by
            rw [ByteArray.toList_eq, ByteArray.toList_eq] at he
            rw [← mk_data s, ← he, mk_data]
          rw [if_pos he, if_pos ⟨hr, hs2⟩]
        · rw [if_neg he, if_neg (fun h => he (by rw [← h.2]))]
theorem spec_key_none (s : ByteArray) (hs : s.size ≤ 1048576) (k : Nat) (hk : s.size + 40 < k) (h : ∀ x y : List UInt8, pieces 47 s.data.toList = [x, y] → ∀ h13 : y.length = 13, y[6]'(by omega) ≠ 45) : spec_l03ToKey.f (k + 1) s = some (0, 0, 0, false) := by
  unfold spec_l03ToKey.f
  have hc := cut_eq s 47 hs (k + 1) (by omega)
  have hc2 : (((47 : UInt8).toNat : Nat) : Int) = 47 := rfl
  rw [hc2] at hc
  rw [hc]
  simp only [Option.bind_some]
  have hj : ∀ L, spec_l03ToKey.j0 (k + 1) s L true = some (0, 0, 0, false) := fun L => by simp only [spec_l03ToKey.j0]; rw [if_pos trivial]
  by_cases h2 : (pieces 47 s.data.toList).length = 2
  · obtain ⟨x, y, hp⟩ : ∃ x y, pieces 47 s.data.toList = [x, y] := by
      match hq : pieces 47 s.data.toList with
      | [x, y] => exact ⟨x, y, rfl⟩
      | [] => rw [hq] at h2; simp at h2
      | [_] => rw [hq] at h2; simp at h2
      | _ :: _ :: _ :: _ => rw [hq] at h2; simp at h2
    rw [hp]
    have g1 : rdOf ByteArray.empty (mkP [x, y]) 1 = ⟨y.toArray⟩ := rfl
    have gl : ((mkP [x, y]).length : Int) = 2 := rfl
    rw [gl, g1, if_pos rfl, if_pos (by decide), size_mk]
    by_cases h13 : y.length = 13
    · rw [if_pos (by omega), if_pos (by omega)]
      have hb := bt_mk y 6 (by omega)
      rw [show ((6 : Nat) : Int) = 6 from rfl] at hb
      have hn := h x y hp h13
      have : (bt ⟨y.toArray⟩ 6 != 45) = true := by
        rw [hb, bne_iff_ne]
        intro e
        apply hn
        apply UInt8.toNat_inj.1
        show _ = 45
        omega
      rw [this, hj]
    · rw [if_neg (by omega), hj]
  · have gl : ((mkP (pieces 47 s.data.toList)).length : Int) = ((pieces 47 s.data.toList).length : Int) := by unfold mkP; rw [List.length_map]
    rw [gl, if_neg (by omega), hj]
theorem spec_key_T (s : ByteArray) (hs : s.size ≤ 1048576) (k : Nat) (hk : s.size + 40 < k) : ∃ a b c q, spec_l03ToKey.f (k + 1) s = some (a, b, c, q) ∧ (q = true → isKey s a b c) := by
  by_cases h : ∀ x y : List UInt8, pieces 47 s.data.toList = [x, y] → ∀ h13 : y.length = 13, y[6]'(by omega) ≠ 45
  · exact ⟨0, 0, 0, false, spec_key_none s hs k hk h, by simp⟩
  · simp only [Classical.not_forall, Classical.not_not] at h
    obtain ⟨x, y, hp, h13, h6⟩ := h
    obtain ⟨n1, b1, e1⟩ := fixed_total (y.take 6) (by rw [List.length_take]; omega) (y.take 6).length k 0 0 (by omega) (by omega) (by rw [List.length_take]; omega)
    obtain ⟨n2, b2, e2⟩ := fixed_total (y.drop 7) (by rw [List.length_drop]; omega) (y.drop 7).length k 0 0 (by omega) (by omega) (by rw [List.length_drop]; omega)
    obtain ⟨t, _, ht⟩ := spec_key_at s x y hs hp h13 h6 k hk n1 n2 b1 b2 e1 e2
    rw [ht]
    split
    · split
      · split
        · rename_i hr
          exact ⟨_, _, _, _, rfl, fun _ => ⟨hr.1.1, hr.1.2.1, hr.1.2.2, hr.2⟩⟩
        · exact ⟨_, _, _, _, rfl, by simp⟩
      · exact ⟨_, _, _, _, rfl, by simp⟩
    · exact ⟨_, _, _, _, rfl, by simp⟩
theorem keyB_size (a b c : Int) : (keyB a b c).size ≤ 17 := by
  show ((pre3 a ++ fw 6 b.toNat ++ [45] ++ fw 6 c.toNat).toArray).size ≤ 17
  rw [List.size_toArray]
  simp only [List.length_append, fw_length, List.length_singleton]
  have : (pre3 a).length ≤ 4 := by
    unfold pre3
    split
    · decide
    · split <;> decide
  omega
theorem spec_key_C (a b c : Int) (h1 : 0 ≤ a ∧ a ≤ 2) (h2 : 0 ≤ b ∧ b ≤ 999999) (h3 : 0 ≤ c ∧ c ≤ 999999) (k : Nat) (hk : 60 < k) : spec_l03ToKey.f (k + 1) (keyB a b c) = some (a, b, c, true) := by
  have hsz := keyB_size a b c
  have hp := key_pieces a b c
  have t6 : (fw 6 b.toNat ++ [45] ++ fw 6 c.toNat).take 6 = fw 6 b.toNat := by
    rw [List.append_assoc, List.take_left' (fw_length 6 _)]
  have d7 : (fw 6 b.toNat ++ [45] ++ fw 6 c.toNat).drop 7 = fw 6 c.toNat := List.drop_left' (by simp [fw_length])
  obtain ⟨t, ht, hk2⟩ := spec_key_at (keyB a b c) _ _ (by omega) hp (by simp [fw_length]) (by rw [List.getElem_append_left (by simp [fw_length]), List.getElem_append_right (by simp [fw_length])]; simp [fw_length]) k (by omega) b c true true
    (by rw [t6, fixed_fw b.toNat (by omega) k (by omega)]; congr 1; rw [Int.toNat_of_nonneg h2.1]) (by rw [d7, fixed_fw c.toNat (by omega) k (by omega)]; congr 1; rw [Int.toNat_of_nonneg h3.1])
  have hta : t = a := by
    rw [ht]
    have : a = 0 ∨ a = 1 ∨ a = 2 := by omega
    rcases this with rfl | rfl | rfl <;> rfl
  rw [hk2, hta]
  simp only [if_true]
  rw [if_pos ⟨⟨h1, h2, h3⟩, trivial⟩]
theorem readSix_T (s : ByteArray) (hs : s.size ≤ 1048576) : ∃ n q, impl_readSix.f s = some (n, q) ∧ (q = true → (0 ≤ n ∧ n ≤ 999999) ∧ s = s6 n) := by
  unfold impl_readSix.f
  rw [if_pos (by omega)]
  split
  · rename_i v _
    split
    · rename_i hv
      rw [six_eq v hv.1 hv.2]
      simp only [Option.bind_some]
      refine ⟨v, _, rfl, fun h => ⟨hv, ?_⟩⟩
      have h := beq_iff_eq.1 h
      rw [ByteArray.toList_eq, ByteArray.toList_eq] at h
      rw [← mk_data s, ← h, mk_data]
    · exact ⟨_, _, rfl, by simp⟩
  · exact ⟨_, _, rfl, by simp⟩
  · exact ⟨_, _, rfl, by simp⟩
theorem readSix_C (n : Int) (h0 : 0 ≤ n) (h1 : n ≤ 999999) : impl_readSix.f (s6 n) = some (n, true) := by
  unfold impl_readSix.f
  have hz := s6_size n
  rw [if_pos (by omega)]
  have ha : Lib.atoiAll (s6 n).data.toList = .ok n := by
    show Lib.atoiAll (fw 6 n.toNat) = _
    obtain ⟨i1, i2⟩ := fw_dig 6 n.toNat
    have hlt : n.toNat < 1000000 := by omega
    rw [Nat.mod_eq_of_lt (by simpa using hlt)] at i2
    have hl := fw_length 6 n.toNat
    cases hd : fw 6 n.toNat with
    | nil => rw [hd] at hl; simp at hl
    | cons c r =>
      rw [hd] at i1 i2
      have hc : 48 ≤ c.toNat := by rw [List.all_cons, Bool.and_eq_true] at i1; have := i1.1; simp [isDig] at this; omega
      have hp : Lib.parseMag (c :: r) = .ok n.toNat := by
        unfold Lib.parseMag
        rw [if_neg (by simp), parse_ok _ 0 i1 (by rw [i2]; omega), i2]
      rw [Lib.atoiAll_plain c r (by omega) (by omega), hp]
      unfold Lib.signless
      simp only
      rw [if_neg (by omega), Int.toNat_of_nonneg h0]
  rw [ha]
  simp only
  rw [if_pos ⟨h0, h1⟩, six_eq n h0 h1]
  simp
def pres : List ByteArray := [(⟨#[114, 97, 119, 47]⟩ : ByteArray), (⟨#[116, 49, 47]⟩ : ByteArray), (⟨#[116, 50, 47]⟩ : ByteArray)]
theorem pres_at (a : Int) (h : 0 ≤ a ∧ a ≤ 2) : rdOf ByteArray.empty pres a = ⟨(pre3 a).toArray⟩ := by
  have : a = 0 ∨ a = 1 ∨ a = 2 := by omega
  rcases this with rfl | rfl | rfl <;> rfl
theorem impl_key_step (s : ByteArray) (hs : s.size ≤ 1048576) (i : Int) (hi : 0 ≤ i ∧ i ≤ 2) (k : Nat) :
    (∃ b c, impl_readDataKey.l0 (k + 2) s pres 3 i = some (i, b, c, true) ∧ isKey s i b c) ∨ (impl_readDataKey.l0 (k + 2) s pres 3 i = impl_readDataKey.l0 k s pres 3 (i + 1) ∧ ∀ b c, ¬ isKey s i b c) := by
  have hw : wrap64 (i + 1) = i + 1 := by rw [wrap_id (i + 1) (by omega) (by omega)]
  have hl3 : ((pres.length : Nat) : Int) = 3 := rfl
  simp only [impl_readDataKey.l0]
  rw [if_pos (by omega), if_pos (by omega), hl3, if_pos (by omega), pres_at i hi]
  unfold strings_CutPrefix.f
  simp only [Option.bind_some]
  have hkd : ∀ b c, (keyB i b c).data.toList = pre3 i ++ (fw 6 b.toNat ++ [45] ++ fw 6 c.toNat) := fun b c => by
    show pre3 i ++ fw 6 b.toNat ++ [45] ++ fw 6 c.toNat = _
    simp
  have hpre : ∀ r, Lib.hasPrefix (pre3 i ++ r) (pre3 i) = true ∧ Lib.trimPrefix (pre3 i ++ r) (pre3 i) = r := fun r => by
    have h1 : Lib.hasPrefix (pre3 i ++ r) (pre3 i) = true := by unfold Lib.hasPrefix; rw [List.isPrefixOf_iff_prefix]; exact List.prefix_append _ _
    refine ⟨h1, ?_⟩
    unfold Lib.trimPrefix
    rw [if_pos h1, List.drop_left' rfl]
  by_cases hp : Lib.hasPrefix s.data.toList (pre3 i) = true
  · obtain ⟨r, hr⟩ : ∃ r, s.data.toList = pre3 i ++ r := by
      unfold Lib.hasPrefix at hp
      rw [List.isPrefixOf_iff_prefix] at hp
      obtain ⟨r, hr⟩ := hp
      exact ⟨r, hr.symm⟩
    rw [hr, (hpre r).1, (hpre r).2, if_pos rfl, size_mk]
    have hrl : r.length ≤ 1048576 := by
      have : s.size = s.data.toList.length := by rw [Array.length_toList]; rfl
      rw [hr, List.length_append] at this
      omega
    have hno : ∀ q : Bool, (∀ b c, ¬ isKey s i b c) → q = false → impl_readDataKey.j1 (k + 1) s i ⟨r.toArray⟩ pres 3 i q = impl_readDataKey.l0 k s pres 3 (i + 1) := fun q _ hq => by
      subst hq
      simp only [impl_readDataKey.j1]
      rw [if_neg (by simp), hw]
    by_cases h13 : r.length = 13
    · rw [if_pos (by omega), if_pos (by omega)]
      have hb := bt_mk r 6 (by omega)
      rw [show ((6 : Nat) : Int) = 6 from rfl] at hb
      rw [hb]
      by_cases h6 : r[6]'(by omega) = 45
      · have : ((((r[6]'(by omega)).toNat : Nat) : Int) == 45) = true := by rw [h6]; rfl
        rw [this]
        simp only [impl_readDataKey.j1]
        have ex7 : (⟨r.toArray⟩ : ByteArray).extract 7 (⟨r.toArray⟩ : ByteArray).size = ⟨(r.drop 7).toArray⟩ := extract_mk r 7
        rw [if_pos trivial, if_pos (by decide), if_pos (by rw [size_mk]; omega), extract_six, ex7]
        obtain ⟨n1, q1, f1, g1⟩ := readSix_T ⟨(r.take 6).toArray⟩ (by rw [size_mk, List.length_take]; omega)
        obtain ⟨n2, q2, f2, g2⟩ := readSix_T ⟨(r.drop 7).toArray⟩ (by rw [size_mk, List.length_drop]; omega)
        rw [f1]
        simp only [Option.bind_some]
        rw [if_pos (by rw [size_mk]; omega), f2]
        simp only [Option.bind_some]
        have hback : ∀ b c, isKey s i b c → q1 = true ∧ q2 = true := fun b c hk => by
          obtain ⟨_, hb2, hc2, hs2⟩ := hk
          have hrr : r = fw 6 b.toNat ++ [45] ++ fw 6 c.toNat := by
            have := hkd b c
            rw [← hs2, hr] at this
            exact List.append_cancel_left this
          have t6 : r.take 6 = fw 6 b.toNat := by rw [hrr, List.append_assoc, List.take_left' (fw_length 6 _)]
          have d7 : r.drop 7 = fw 6 c.toNat := by rw [hrr]; exact List.drop_left' (by simp [fw_length])
          have c1 := readSix_C b hb2.1 hb2.2
          have c2 := readSix_C c hc2.1 hc2.2
          unfold s6 at c1 c2
          rw [t6, c1] at f1
          rw [d7, c2] at f2
          obtain ⟨_, e1⟩ := Prod.mk.inj (Option.some.inj f1)
          obtain ⟨_, e2⟩ := Prod.mk.inj (Option.some.inj f2)
          exact ⟨e1.symm, e2.symm⟩
        cases q1 with
        | false => exact .inr ⟨by simp [hw], fun b c hk => by have := (hback b c hk).1; cases this⟩
        | true =>
          cases q2 with
          | false => exact .inr ⟨by simp [hw], fun b c hk => by have := (hback b c hk).2; cases this⟩
          | true =>
            refine .inl ⟨n1, n2, by simp, hi, (g1 rfl).1, (g2 rfl).1, ?_⟩
            have e1 : r.take 6 = fw 6 n1.toNat := by
              have := congrArg (fun b : ByteArray => b.data.toList) (g1 rfl).2
              simpa [s6] using this
            have e2 : r.drop 7 = fw 6 n2.toNat := by
              have := congrArg (fun b : ByteArray => b.data.toList) (g2 rfl).2
              simpa [s6] using this
            have hrr : r = fw 6 n1.toNat ++ [45] ++ fw 6 n2.toNat := by
              rw [← e1, ← e2, ← h6]
              have hd := List.drop_eq_getElem_cons (show 6 < r.length by omega)
              rw [List.append_assoc, List.singleton_append, ← hd, List.take_append_drop]
            rw [← mk_data s, hr, hrr, ← hkd n1 n2, mk_data]
      · have hq : ((((r[6]'(by omega)).toNat : Nat) : Int) == 45) = false := by
          rw [beq_eq_false_iff_ne]
          intro e
          apply h6
          apply UInt8.toNat_inj.1
          show _ = 45
          omega
        have hn : ∀ b c, ¬ isKey s i b c := fun b c hk => by
          apply h6
          have hrr : r = fw 6 b.toNat ++ [45] ++ fw 6 c.toNat := by
            have := hkd b c
            rw [← hk.2.2.2, hr] at this
            exact List.append_cancel_left this
          subst hrr
          rw [List.getElem_append_left (by simp [fw_length]), List.getElem_append_right (by simp [fw_length])]
          simp [fw_length]
        exact .inr ⟨by rw [hq, hno false hn rfl], hn⟩
    · have hn : ∀ b c, ¬ isKey s i b c := fun b c hk => by
        apply h13
        have hrr : r = fw 6 b.toNat ++ [45] ++ fw 6 c.toNat := by
          have := hkd b c
          rw [← hk.2.2.2, hr] at this
          exact List.append_cancel_left this
        rw [hrr]
        simp [fw_length]
      rw [if_neg (by omega)]
      exact .inr ⟨hno false hn rfl, hn⟩
  · have hp0 : Lib.hasPrefix s.data.toList (pre3 i) = false := by simpa using hp
    rw [hp0]
    simp only [Bool.false_eq_true, if_false, impl_readDataKey.j1]
    refine .inr ⟨by rw [hw], fun b c hk => hp ?_⟩
    rw [hk.2.2.2, hkd b c]
    exact (hpre _).1
theorem key_one (s : ByteArray) (a b c a' b' c' : Int) (h : isKey s a b c) (h' : isKey s a' b' c') : a = a' ∧ b = b' ∧ c = c' := by
  have e := spec_key_C a b c h.1 h.2.1 h.2.2.1 100 (by omega)
  have e' := spec_key_C a' b' c' h'.1 h'.2.1 h'.2.2.1 100 (by omega)
  rw [← h.2.2.2] at e
  rw [← h'.2.2.2, e] at e'
  simpa using e'
/-- reading a data key: both tell the same -/
theorem key_same (s : ByteArray) (hs : s.size ≤ 1048576) (k : Nat) (hk : s.size + 62 < k) : ∃ a b c q, spec_l03ToKey.f k s = some (a, b, c, q) ∧ (∃ a' b' c', impl_readDataKey.f k s = some (a', b', c', q) ∧ (q = true → a = a' ∧ b = b' ∧ c = c')) ∧ (q = true → isKey s a b c) := by
  obtain ⟨k, rfl⟩ : ∃ m, k = m + 8 := ⟨k - 8, by omega⟩
  obtain ⟨a, b, c, q, h1, h2⟩ := spec_key_T s hs (k + 7) (by omega)
  have hi : impl_readDataKey.f (k + 8) s = impl_readDataKey.l0 (k + 8) s pres 3 0 := by
    unfold impl_readDataKey.f impl_dataPrefixes.f
    rfl
  refine ⟨a, b, c, q, h1, ?_, h2⟩
  rw [hi]
  have hfound : ∀ i b' c', isKey s i b' c' → q = true ∧ a = i ∧ b = b' ∧ c = c' := fun i b' c' hk => by
    have e := spec_key_C i b' c' hk.1 hk.2.1 hk.2.2.1 (k + 7) (by omega)
    rw [← hk.2.2.2, h1] at e
    simp only [Option.some.injEq, Prod.mk.injEq] at e
    exact ⟨e.2.2.2, e.1, e.2.1, e.2.2.1⟩
  have hend : impl_readDataKey.l0 (k + 2) s pres 3 3 = some (0, 0, 0, false) := by
    simp only [impl_readDataKey.l0]
    rw [if_neg (by decide)]
  rcases impl_key_step s hs 0 (by omega) (k + 6) with ⟨b', c', e, hk0⟩ | ⟨e, n0⟩
  · obtain ⟨hq, _, _, _⟩ := hfound 0 b' c' hk0
    subst hq
    exact ⟨0, b', c', e, fun _ => (hfound 0 b' c' hk0).2⟩
  · rw [e]
    rcases impl_key_step s hs (0 + 1) (by omega) (k + 4) with ⟨b', c', e, hk0⟩ | ⟨e, n1⟩
    · obtain ⟨hq, _, _, _⟩ := hfound _ b' c' hk0
      subst hq
      exact ⟨_, b', c', e, fun _ => (hfound _ b' c' hk0).2⟩
    · rw [e]
      rcases impl_key_step s hs (0 + 1 + 1) (by omega) (k + 2) with ⟨b', c', e, hk0⟩ | ⟨e, n2⟩
      · obtain ⟨hq, _, _, _⟩ := hfound _ b' c' hk0
        subst hq
        exact ⟨_, b', c', e, fun _ => (hfound _ b' c' hk0).2⟩
      · rw [e]
        have hq : q = false := by
          cases q with
          | false => rfl
          | true =>
            exfalso
            have hk0 := h2 rfl
            have : a = 0 ∨ a = 0 + 1 ∨ a = 0 + 1 + 1 := by have := hk0.1; omega
            rcases this with rfl | rfl | rfl
            · exact n0 _ _ hk0
            · exact n1 _ _ hk0
            · exact n2 _ _ hk0
        subst hq
        exact ⟨0, 0, 0, hend, by simp⟩
theorem range_s (a b : Int) : spec_l04Range.f a b = some (decide (0 ≤ a) && (decide (a ≤ b) && decide (b ≤ 100000))) := by
  unfold spec_l04Range.f
  simp only [in_eq, Option.bind_some]
  by_cases h1 : 0 ≤ a <;> by_cases h2 : a ≤ b <;> by_cases h3 : b ≤ 100000 <;> by_cases h4 : a ≤ 100000 <;> first | omega | simp [h1, h2, h3, h4]
theorem range_i (a b : Int) : impl_isRange.f a b = some (decide (0 ≤ a) && (decide (a ≤ b) && decide (b ≤ 100000))) := by
  unfold impl_isRange.f
  by_cases h1 : 0 ≤ a <;> by_cases h2 : a ≤ b <;> by_cases h3 : b ≤ 100000 <;> simp [h1, h2, h3]
theorem tier_entry (x0 x1 x2 x3 x4 : Int) (s : ByteArray) (lo : Int) (hs : s.size ≤ 1048576) (k : Nat) (hk : s.size + 62 < k) :
    ∃ r, impl_entryOK.f k x2 x3 x4 s = some r ∧ spec_l06Tiered.f k x0 x1 x2 x3 x4 s lo = some (r && decide (lo ≤ x2)) ∧ (r = true → 0 ≤ x2 ∧ ∃ a b c, isKey s a b c) := by
  obtain ⟨a, b, c, q, h1, ⟨a', b', c', h2, h3⟩, h4⟩ := key_same s hs k hk
  unfold impl_entryOK.f spec_l06Tiered.f
  rw [h1, h2]
  simp only [Option.bind_some, in_eq, range_s, range_i]
  cases q with
  | false => exact ⟨false, by simp, by simp, by simp⟩
  | true =>
    obtain ⟨rfl, rfl, rfl⟩ := h3 rfl
    have ht := (h4 rfl).1
    by_cases ha : a = x2
    · subst ha
      simp only [if_true]
      have h2 : decide (a ≤ 2) = true := decide_eq_true ht.2
      rw [h2, Bool.and_true]
      have hk2 : 0 ≤ a ∧ ∃ a b c, isKey s a b c := ⟨ht.1, _, _, _, h4 rfl⟩
      cases (decide (0 ≤ x3) && (decide (x3 ≤ x4) && decide (x4 ≤ 100000))) <;> cases decide (x3 < x4) <;> cases decide (lo ≤ a) <;> simp <;> exact hk2
    · simp only [if_true, if_neg ha]
      exact ⟨false, rfl, rfl, by simp⟩
/-- whether an entry is right -/
def eB (x : S64) : Bool := impl_entryOK.f 1048700 x.f0 x.f1 x.f2 x.f3 == some true
theorem entry_mono (a b c : Int) (s : ByteArray) (k : Nat) (r : Bool) (h : impl_entryOK.f k a b c s = some r) (d : Nat) : impl_entryOK.f (k + d) a b c s = some r := by
  induction d with
  | zero => exact h
  | succ d ih => exact impl_entryOK.mono a b c s (k + d) r ih
theorem entry_at (x : S64) (hs : x.f3.size ≤ 1048576) (k : Nat) (hk : 1048700 ≤ k) : impl_entryOK.f k x.f0 x.f1 x.f2 x.f3 = some (eB x) ∧ spec_l06Tiered.f k 0 0 x.f0 x.f1 x.f2 x.f3 0 = some (eB x) := by
  obtain ⟨r0, g1, _, _⟩ := tier_entry 0 0 x.f0 x.f1 x.f2 x.f3 0 hs 1048700 (by omega)
  have e0 : eB x = r0 := by unfold eB; rw [g1]; cases r0 <;> rfl
  obtain ⟨d, rfl⟩ : ∃ d, k = 1048700 + d := ⟨k - 1048700, by omega⟩
  have g2 := entry_mono _ _ _ _ _ _ g1 d
  obtain ⟨r, g3, g4, g5⟩ := tier_entry 0 0 x.f0 x.f1 x.f2 x.f3 0 hs (1048700 + d) (by omega)
  rw [g2] at g3
  obtain rfl := Option.some.inj g3
  rw [e0]
  refine ⟨g2, ?_⟩
  rw [g4]
  cases r0 with
  | false => rfl
  | true => rw [decide_eq_true (g5 rfl).1]; rfl
theorem okE_at (x : S64) (hs : x.f3.size ≤ 1048576) (k : Nat) (hk : 1048700 ≤ k) : okE k x = some (eB x) := (entry_at x hs k hk).1
theorem itb (b c : Bool) : (if b = true then some c else some false) = some (b && c) := by cases b <;> rfl
theorem itn (b c : Bool) : (if b = true then some false else some c) = some (!b && c) := by cases b <;> rfl
theorem itp (p : Prop) [Decidable p] (c : Bool) : (if p then some c else some false) = some (decide p && c) := by by_cases h : p <;> simp [h]
theorem itq (p : Prop) [Decidable p] (c : Bool) : (if p then some false else some c) = some (!decide p && c) := by by_cases h : p <;> simp [h]
/-- whether a text is a data key -/
def kB (s : ByteArray) : Bool := (impl_readDataKey.f 1048700 s).any (fun x => x.2.2.2)
theorem rdk_mono (s : ByteArray) (k : Nat) (r : Int × Int × Int × Bool) (h : impl_readDataKey.f k s = some r) (d : Nat) : impl_readDataKey.f (k + d) s = some r := by
  induction d with
  | zero => exact h
  | succ d ih => exact impl_readDataKey.mono s (k + d) r ih
theorem kB_at (s : ByteArray) (hs : s.size ≤ 1048576) (k : Nat) (hk : 1048700 ≤ k) : ∃ a b c a' b' c', spec_l03ToKey.f k s = some (a, b, c, kB s) ∧ impl_readDataKey.f k s = some (a', b', c', kB s) ∧ (kB s = true → a = a' ∧ b = b' ∧ c = c') := by
  obtain ⟨_, _, _, q0, _, ⟨a0, b0, c0, g1, _⟩, _⟩ := key_same s hs 1048700 (by omega)
  have e0 : kB s = q0 := by unfold kB; rw [g1]; rfl
  obtain ⟨d, rfl⟩ : ∃ d, k = 1048700 + d := ⟨k - 1048700, by omega⟩
  have g2 := rdk_mono s _ _ g1 d
  obtain ⟨a, b, c, q, g3, ⟨a', b', c', g4, g5⟩, _⟩ := key_same s hs (1048700 + d) (by omega)
  have g6 := g2
  rw [g4] at g6
  simp only [Option.some.injEq, Prod.mk.injEq] at g6
  obtain ⟨rfl, rfl, rfl, rfl⟩ := g6
  rw [e0]
  exact ⟨_, _, _, _, _, _, g3, g4, g5⟩
theorem eB_tier (x : S64) (hs : x.f3.size ≤ 1048576) (h : eB x = true) : 0 ≤ x.f0 ∧ x.f0 ≤ 2 := by
  have h1 := (entry_at x hs 1048700 (by omega)).2
  rw [h] at h1
  unfold spec_l06Tiered.f at h1
  obtain ⟨a, b, c, q, g, _, _⟩ := key_same x.f3 hs 1048700 (by omega)
  rw [g] at h1
  simp only [Option.bind_some, in_eq] at h1
  cases q with
  | false => simp at h1
  | true =>
    rw [if_pos rfl] at h1
    by_cases ha : a = x.f0
    · rw [if_pos ha] at h1
      by_cases hb : (decide (0 ≤ x.f0) && decide (x.f0 ≤ 2)) = true
      · simpa using hb
      · rw [if_neg hb] at h1
        cases h1
    · rw [if_neg ha] at h1
      cases h1
theorem sin_loop (K : List ByteArray) (hK : K.length ≤ 1048576) (s : ByteArray) : ∀ (d k i : Nat), i + d = K.length → d < k → spec_l06In.l0 k K s (i : Int) = some ((K.drop i).any fun y => y.data.toList == s.data.toList)
  | 0, 0, _, _, hk => by omega
  | d + 1, 0, _, _, hk => by omega
  | 0, k + 1, i, hi, _ => by
    simp only [spec_l06In.l0]
    rw [if_neg (by omega), List.drop_eq_nil_of_le (by omega)]
    rfl
  | d + 1, k + 1, i, hi, hk => by
    have h : i < K.length := by omega
    have hw : wrap64 ((i : Int) + 1) = ((i + 1 : Nat) : Int) := by unfold wrap64; omega
    have hr : rdOf ByteArray.empty K (i : Int) = K[i] := by unfold rdOf; rw [Int.toNat_natCast, List.getD_eq_getElem?_getD, List.getElem?_eq_getElem h]; rfl
    simp only [spec_l06In.l0]
    rw [if_pos (by omega), if_pos (by omega), hr, hw, ByteArray.toList_eq, ByteArray.toList_eq, List.drop_eq_getElem_cons h, List.any_cons]
    by_cases c : K[i].data.toList = s.data.toList
    · rw [if_pos c, beq_iff_eq.mpr c, Bool.true_or]
    · rw [if_neg c, beq_eq_false_iff_ne.mpr c, Bool.false_or, sin_loop K hK s d k (i + 1) (by omega) (by omega)]
theorem sin_eq (K : List ByteArray) (hK : K.length ≤ 1048576) (s : ByteArray) (k : Nat) (hk : K.length < k) : spec_l06In.f k K s = some (memK s K) := by
  have := sin_loop K hK s K.length k 0 (by omega) hk
  rw [List.drop_zero] at this
  exact this
/-- keys that are all apart, and apart from those that are there -/
def dist : List ByteArray → List ByteArray → Bool
  | _, [] => true
  | K, s :: r => !memK s K && dist (s :: K) r
theorem dist_congr : ∀ (L K K' : List ByteArray), (∀ s, memK s K = memK s K') → dist K L = dist K' L
  | [], _, _, _ => rfl
  | s :: r, K, K', h => by
    show (!memK s K && dist (s :: K) r) = (!memK s K' && dist (s :: K') r)
    rw [h s, dist_congr r (s :: K) (s :: K') (fun t => by have := h t; unfold memK at this ⊢; rw [List.any_cons, List.any_cons, this])]
theorem dist_snoc (K : List ByteArray) (s : ByteArray) (L : List ByteArray) : dist (K ++ [s]) L = dist (s :: K) L :=
  dist_congr L _ _ (fun t => by unfold memK; rw [List.any_append, List.any_cons, List.any_nil, Bool.or_false, List.any_cons, Bool.or_comm])
theorem dist_append : ∀ (L L' K : List ByteArray), dist K (L ++ L') = true → dist K L = true
  | [], _, _, _ => rfl
  | s :: r, L', K, h => by
    have h' : (!memK s K && dist (s :: K) (r ++ L')) = true := h
    show (!memK s K && dist (s :: K) r) = true
    rw [Bool.and_eq_true] at h' ⊢
    exact ⟨h'.1, dist_append r L' _ h'.2⟩
def insAll (M L : List ByteArray) : List ByteArray := L.foldl (fun m s => insK s m) M
theorem insAll_nil (M : List ByteArray) : insAll M [] = M := rfl
theorem insAll_cons (M : List ByteArray) (s : ByteArray) (r : List ByteArray) : insAll M (s :: r) = insAll (insK s M) r := rfl
theorem insK_len (s : ByteArray) (M : List ByteArray) : (insK s M).length ≤ M.length + 1 := by unfold insK; split <;> simp
theorem insAll_len : ∀ (L M : List ByteArray), (insAll M L).length ≤ M.length + L.length ∧ ((insAll M L).length = M.length + L.length ↔ dist M L = true)
  | [], M => ⟨by simp [insAll], by simp [insAll, dist]⟩
  | s :: r, M => by
    obtain ⟨h1, h2⟩ := insAll_len r (insK s M)
    have e : insAll M (s :: r) = insAll (insK s M) r := rfl
    have ed : dist M (s :: r) = (!memK s M && dist (s :: M) r) := rfl
    rw [e, ed, List.length_cons]
    unfold insK at h1 h2 ⊢
    cases hm : memK s M with
    | true =>
      rw [hm, if_pos rfl] at h1 h2
      rw [if_pos rfl]
      refine ⟨by omega, ?_⟩
      rw [Bool.not_true, Bool.false_and]
      exact ⟨fun h => by omega, fun h => by cases h⟩
    | false =>
      rw [hm, if_neg (by decide), List.length_cons] at h1 h2
      rw [if_neg (by decide), Bool.not_false, Bool.true_and]
      refine ⟨by omega, ?_⟩
      rw [← h2]
      exact ⟨fun h => by omega, fun h => by omega⟩
def tB (q : Int) (t : S71) : Bool := kB t.f1 && (decide (1 ≤ t.f0) && decide (t.f0 ≤ q))
theorem tB_eq (q : Int) (t : S71) : tB q t = (kB t.f1 && (decide (1 ≤ t.f0) && decide (t.f0 ≤ q))) := rfl
def inB (x : Int) : Bool := decide (0 ≤ x) && decide (x ≤ 100000)
def finB (w0 w1 w2 h0 h1 h2 a0 a1 a2 : Int) : Bool := (inB w0 && decide (h0 = a0)) && ((inB w1 && decide (h1 = a1)) && (inB w2 && decide (h2 = a2)))
def up (t : Int) (x : S64) (a : Int) : Int := if x.f0 = t then x.f2 else a
def gch (w0 w1 w2 h0 h1 h2 : Int) : List S64 → Int → Int → Int → Bool
  | [], a0, a1, a2 => finB w0 w1 w2 h0 h1 h2 a0 a1 a2
  | x :: r, a0, a1, a2 => decide (x.f1 = at3 x.f0 a0 a1 a2) && gch w0 w1 w2 h0 h1 h2 r (up 0 x a0) (up 1 x a1) (up 2 x a2)
def pc : List S64 → Int → Int → Bool
  | [], at_, h => decide (at_ = h)
  | x :: r, at_, h => decide (x.f1 = at_) && pc r x.f2 h
def ofT (l : List S64) (t : Int) : List S64 := l.filter fun x => decide (x.f0 = t)
theorem ofT_cons (x : S64) (r : List S64) (t : Int) : ofT (x :: r) t = if x.f0 = t then x :: ofT r t else ofT r t := by
  unfold ofT
  rw [List.filter_cons]
  by_cases h : x.f0 = t <;> simp [h]
theorem gch_pc (w0 w1 w2 h0 h1 h2 : Int) : ∀ (l : List S64) (a0 a1 a2 : Int), (∀ x ∈ l, 0 ≤ x.f0 ∧ x.f0 ≤ 2) → gch w0 w1 w2 h0 h1 h2 l a0 a1 a2 = ((inB w0 && pc (ofT l 0) a0 h0) && ((inB w1 && pc (ofT l 1) a1 h1) && (inB w2 && pc (ofT l 2) a2 h2)))
  | [], a0, a1, a2, _ => by
    show finB w0 w1 w2 h0 h1 h2 a0 a1 a2 = ((inB w0 && decide (a0 = h0)) && ((inB w1 && decide (a1 = h1)) && (inB w2 && decide (a2 = h2))))
    unfold finB
    rw [show decide (h0 = a0) = decide (a0 = h0) by simp [eq_comm], show decide (h1 = a1) = decide (a1 = h1) by simp [eq_comm], show decide (h2 = a2) = decide (a2 = h2) by simp [eq_comm]]
  | x :: r, a0, a1, a2, hx => by
    have ih := gch_pc w0 w1 w2 h0 h1 h2 r (up 0 x a0) (up 1 x a1) (up 2 x a2) (fun y hy => hx y (List.mem_cons_of_mem _ hy))
    have ht := hx x (List.mem_cons_self ..)
    show (decide (x.f1 = at3 x.f0 a0 a1 a2) && gch w0 w1 w2 h0 h1 h2 r (up 0 x a0) (up 1 x a1) (up 2 x a2)) = _
    rw [ih, ofT_cons, ofT_cons, ofT_cons]
    unfold up at3
    have hc : x.f0 = 0 ∨ x.f0 = 1 ∨ x.f0 = 2 := by omega
    rcases hc with e | e | e
    · simp only [e, if_true, show ¬ ((0 : Int) = 1) by decide, show ¬ ((0 : Int) = 2) by decide, if_false, pc]
      cases decide (x.f1 = a0) <;> cases inB w0 <;> simp
    · simp only [e, if_true, show ¬ ((1 : Int) = 0) by decide, show ¬ ((1 : Int) = 2) by decide, if_false, pc]
      cases decide (x.f1 = a1) <;> cases inB w1 <;> cases (inB w0 && pc (ofT r 0) a0 h0) <;> simp
    · simp only [e, if_true, show ¬ ((2 : Int) = 0) by decide, show ¬ ((2 : Int) = 1) by decide, if_false, pc]
      cases decide (x.f1 = a2) <;> cases inB w2 <;> cases (inB w0 && pc (ofT r 0) a0 h0) <;> cases (inB w1 && pc (ofT r 1) a1 h1) <;> simp
theorem at3_0 (a b c : Int) : at3 0 a b c = a := rfl
theorem at3_1 (a b c : Int) : at3 1 a b c = b := rfl
theorem at3_2 (a b c : Int) : at3 2 a b c = c := rfl
theorem w01 : wrap64 (0 + 1) = 1 := by unfold wrap64; omega
theorem w12 : wrap64 (1 + 1) = 2 := by unfold wrap64; omega
theorem w23 : wrap64 (2 + 1) = 3 := by unfold wrap64; omega
section
variable (q f : Int) (l : List S64) (c : List S71) (w0 w1 w2 h0 h1 h2 : Int)
theorem s2_eq (a0 a1 a2 : Int) (k : Nat) : spec_StateOK.l2 (k + 4) 0 q f l c w0 w1 w2 h0 h1 h2 a0 a1 a2 = some (finB w0 w1 w2 h0 h1 h2 a0 a1 a2) := by
  have c0 : ((0 : Int) < 3) = True := eq_true (by decide)
  have c1 : ((1 : Int) < 3) = True := eq_true (by decide)
  have c2 : ((2 : Int) < 3) = True := eq_true (by decide)
  have c3 : ((3 : Int) < 3) = False := eq_false (by decide)
  have z0 : ((0 : Int) ≤ 0) = True := eq_true (by decide)
  have z1 : ((0 : Int) ≤ 1) = True := eq_true (by decide)
  have z2 : ((0 : Int) ≤ 2) = True := eq_true (by decide)
  simp only [spec_StateOK.l2, in_eq, Option.bind_some, w01, w12, w23, at3_0, at3_1, at3_2, c0, c1, c2, c3, z0, z1, z2, if_true, if_false]
  unfold finB inB
  cases (decide (0 ≤ w0) && decide (w0 ≤ 100000)) <;> cases (decide (0 ≤ w1) && decide (w1 ≤ 100000)) <;> cases (decide (0 ≤ w2) && decide (w2 ≤ 100000)) <;> by_cases e0 : h0 = a0 <;> by_cases e1 : h1 = a1 <;> by_cases e2 : h2 = a2 <;> simp [e0, e1, e2]
theorem s1_loop (hc : c.length ≤ 5000) (hs : ∀ t ∈ c, t.f1.size ≤ 1048576) (a0 a1 a2 : Int) : ∀ (d k i : Nat) (K : List ByteArray), i + d = c.length → d + 1048800 < k → K.length + d ≤ 10000 →
    spec_StateOK.l1 k K (i : Int) q f l c w0 w1 w2 h0 h1 h2 a0 a1 a2 = some (((c.drop i).all (tB q) && dist K ((c.drop i).map (·.f1))) && finB w0 w1 w2 h0 h1 h2 a0 a1 a2)
  | 0, k, i, K, hi, hk, hK => by
    obtain ⟨k, rfl⟩ : ∃ m, k = m + 5 := ⟨k - 5, by omega⟩
    simp only [spec_StateOK.l1]
    rw [if_neg (by omega), s2_eq, List.drop_eq_nil_of_le (by omega)]
    rfl
  | d + 1, k, i, K, hi, hk, hK => by
    obtain ⟨k, rfl⟩ : ∃ m, k = m + 1 := ⟨k - 1, by omega⟩
    have h : i < c.length := by omega
    have hw : wrap64 ((i : Int) + 1) = ((i + 1 : Nat) : Int) := by unfold wrap64; omega
    obtain ⟨x, y, z, _, _, _, g1, _, _⟩ := kB_at c[i].f1 (hs _ (List.getElem_mem h)) k (by omega)
    have ih := s1_loop hc hs a0 a1 a2 d k (i + 1) (K ++ [c[i].f1]) (by omega) (by omega) (by simp; omega)
    have q1 : (i : Int) < (c.length : Int) := by omega
    have q2 : (0 : Int) ≤ (i : Int) := by omega
    have q3 : K.length < 8796093022208 := by omega
    simp only [spec_StateOK.l1, rd71_at c i h, g1, Option.bind_some, in_eq, sin_eq K (by omega) _ k (by omega), hw, ih, if_pos q1, if_pos q2, if_pos q3]
    rw [List.drop_eq_getElem_cons h, List.all_cons, List.map_cons, dist_snoc]
    show _ = some (((tB q c[i] && _) && (!memK c[i].f1 K && dist (c[i].f1 :: K) _)) && _)
    unfold tB
    cases kB c[i].f1 <;> cases (decide (1 ≤ c[i].f0) && decide (c[i].f0 ≤ q)) <;> cases memK c[i].f1 K <;> simp
theorem s0_loop (hl : l.length ≤ 5000) (hc : c.length ≤ 5000) (hls : ∀ x ∈ l, x.f3.size ≤ 1048576) (hs : ∀ t ∈ c, t.f1.size ≤ 1048576) : ∀ (d k i : Nat) (K : List ByteArray) (a0 a1 a2 : Int), i + d = l.length → d + 1060000 < k → K.length + d ≤ 5000 →
    spec_StateOK.l0 k K (i : Int) q f l c w0 w1 w2 h0 h1 h2 a0 a1 a2 = some (((l.drop i).all eB && (gch w0 w1 w2 h0 h1 h2 (l.drop i) a0 a1 a2 && dist K ((l.drop i).map (·.f3) ++ c.map (·.f1)))) && c.all (tB q))
  | 0, k, i, K, a0, a1, a2, hi, hk, hK => by
    obtain ⟨k, rfl⟩ : ∃ m, k = m + 1 := ⟨k - 1, by omega⟩
    have := s1_loop q f l c w0 w1 w2 h0 h1 h2 hc hs a0 a1 a2 c.length k 0 K (by omega) (by omega) (by omega)
    rw [List.drop_zero, show ((0 : Nat) : Int) = 0 from rfl] at this
    simp only [spec_StateOK.l0]
    rw [if_neg (by omega), this, List.drop_eq_nil_of_le (by omega)]
    show _ = some ((true && (finB w0 w1 w2 h0 h1 h2 a0 a1 a2 && dist K (c.map (·.f1)))) && c.all (tB q))
    cases c.all (tB q) <;> cases dist K (c.map (·.f1)) <;> cases finB w0 w1 w2 h0 h1 h2 a0 a1 a2 <;> rfl
  | d + 1, k, i, K, a0, a1, a2, hi, hk, hK => by
    obtain ⟨k, rfl⟩ : ∃ m, k = m + 1 := ⟨k - 1, by omega⟩
    have h : i < l.length := by omega
    have hw : wrap64 ((i : Int) + 1) = ((i + 1 : Nat) : Int) := by unfold wrap64; omega
    have hx := hls l[i] (List.getElem_mem h)
    have g1 := (entry_at l[i] hx k (by omega)).2
    have ih := fun a0 a1 a2 => s0_loop hl hc hls hs d k (i + 1) (K ++ [l[i].f3]) a0 a1 a2 (by omega) (by omega) (by simp; omega)
    have hd : l.drop i = l[i] :: l.drop (i + 1) := List.drop_eq_getElem_cons h
    have hK2 : K.length < 8796093022208 := by omega
    rw [hd]
    simp only [spec_StateOK.l0, rd64_at l i h, g1, Option.bind_some, sin_eq K (by omega) _ k (by omega), hw, ih, if_pos hK2, dist_snoc]
    rw [if_pos (by omega), if_pos (by omega), List.all_cons, List.map_cons, List.cons_append]
    show _ = some (((eB l[i] && _) && ((decide (l[i].f1 = at3 l[i].f0 a0 a1 a2) && gch w0 w1 w2 h0 h1 h2 _ (up 0 l[i] a0) (up 1 l[i] a1) (up 2 l[i] a2)) && (!memK l[i].f3 K && dist (l[i].f3 :: K) _))) && _)
    cases he : eB l[i] with
    | false => rw [if_neg (by decide)]; simp
    | true =>
      obtain ⟨t0, t1⟩ := eB_tier l[i] hx he
      rw [if_pos rfl, if_pos t0, if_pos (by omega)]
      by_cases hf : l[i].f1 = at3 l[i].f0 a0 a1 a2
      · rw [if_pos hf, decide_eq_true hf]
        cases hm : memK l[i].f3 K with
        | true => rw [if_pos rfl]; simp
        | false =>
          rw [if_neg (by decide)]
          first
          | (unfold up; rfl)
          | (have ht : l[i].f0 = 0 ∨ l[i].f0 = 1 ∨ l[i].f0 = 2 := by omega
             unfold up
             rcases ht with e | e | e
             · rw [e, if_pos rfl, if_pos rfl, if_neg (by decide), if_neg (by decide)]; rfl
             · rw [e, if_neg (by decide), if_pos rfl, if_neg (by decide), if_pos rfl, if_neg (by decide)]; rfl
             · rw [e, if_neg (by decide), if_neg (by decide), if_pos rfl, if_neg (by decide), if_neg (by decide), if_pos rfl]; rfl)
      · rw [if_neg hf, decide_eq_false hf]; simp
/-- what StateOK answers -/
def stB : Bool := (decide (0 ≤ q) && decide (q ≤ 999999)) && ((decide (0 ≤ f) && decide (f ≤ 999999)) && (!decide ((l.length : Int) + (c.length : Int) > 4096) && ((l.all eB && (gch w0 w1 w2 h0 h1 h2 l w0 w1 w2 && dist [] (l.map (·.f3) ++ c.map (·.f1)))) && c.all (tB q))))
theorem sstate_eq (hl : l.length ≤ 1048576) (hc : c.length ≤ 1048576) (hls : ∀ x ∈ l, x.f3.size ≤ 1048576) (hs : ∀ t ∈ c, t.f1.size ≤ 1048576) (k : Nat) (hk : 1070000 < k) : spec_StateOK.f k q f l c w0 w1 w2 h0 h1 h2 = some (stB q f l c w0 w1 w2 h0 h1 h2) := by
  obtain ⟨k, rfl⟩ : ∃ m, k = m + 1 := ⟨k - 1, by omega⟩
  have hw : wrap64 ((l.length : Int) + (c.length : Int)) = (l.length : Int) + (c.length : Int) := by unfold wrap64; omega
  have ht : spec_StateOK.j0 (k + 1) true q f l c w0 w1 w2 h0 h1 h2 = some false := by simp only [spec_StateOK.j0, if_true]
  unfold spec_StateOK.f stB
  simp only [in_eq, Option.bind_some, hw, ht]
  cases (decide (0 ≤ q) && decide (q ≤ 999999)) with
  | false => simp
  | true =>
    cases (decide (0 ≤ f) && decide (f ≤ 999999)) with
    | false => simp
    | true =>
      rw [if_pos rfl, if_pos rfl]
      by_cases hn : (l.length : Int) + (c.length : Int) > 4096
      · rw [decide_eq_true hn, ht]; rfl
      · rw [decide_eq_false hn]
        have := s0_loop q f l c w0 w1 w2 h0 h1 h2 (by omega) (by omega) hls hs l.length k 0 [] w0 w1 w2 (by omega) (by omega) (by simp; omega)
        rw [List.drop_zero, show ((0 : Nat) : Int) = 0 from rfl] at this
        simp only [spec_StateOK.j0, Bool.false_eq_true, if_false, this]
        rfl
theorem i3_loop (F : List S64) (hF : F.length ≤ 5000) (t : Int) (ht : 0 ≤ t ∧ t < 3) (k' : Nat) : ∀ (d i : Nat) (at_ : Int), i + d = F.length →
    impl_StateOK.l3 (k' + d + 1) t at_ t F (F.length : Int) (i : Int) q f l c w0 w1 w2 h0 h1 h2 = if pc (F.drop i) at_ (at3 t h0 h1 h2) = true then impl_StateOK.l2 k' (wrap64 (t + 1)) q f l c w0 w1 w2 h0 h1 h2 else some false
  | 0, i, at_, hi => by
    rw [impl_StateOK.l3, if_neg (by omega), if_pos ht.1, if_pos ht.2, List.drop_eq_nil_of_le (by omega)]
    show _ = if decide (at_ = at3 t h0 h1 h2) = true then _ else _
    by_cases e : at_ = at3 t h0 h1 h2
    · rw [if_pos e, if_pos (decide_eq_true e)]
    · rw [if_neg e, if_neg (by rw [decide_eq_true_eq]; exact e)]
  | d + 1, i, at_, hi => by
    have h : i < F.length := by omega
    have hw : wrap64 ((i : Int) + 1) = ((i + 1 : Nat) : Int) := by unfold wrap64; omega
    have ih := i3_loop F hF t ht k' d (i + 1) F[i].f2 (by omega)
    rw [impl_StateOK.l3, if_pos (by omega), if_pos (by omega), if_pos (by omega), rd64_at F i h, hw, List.drop_eq_getElem_cons h]
    show _ = if (decide (F[i].f1 = at_) && pc (F.drop (i + 1)) F[i].f2 (at3 t h0 h1 h2)) = true then _ else _
    by_cases e : F[i].f1 = at_
    · rw [if_pos e, decide_eq_true e, Bool.true_and]; exact ih
    · rw [if_neg e, decide_eq_false e, Bool.false_and, if_neg (by decide)]
theorem of_loop (hl : l.length ≤ 5000) (t : Int) : ∀ (d k i : Nat) (out : List S64), i + d = l.length → d < k → out.length ≤ i → impl_State_of.l0 k t out l (l.length : Int) (i : Int) = some (out ++ ofT (l.drop i) t)
  | 0, 0, _, _, _, hk, _ => by omega
  | d + 1, 0, _, _, _, hk, _ => by omega
  | 0, k + 1, i, out, hi, _, _ => by
    simp only [impl_State_of.l0]
    rw [if_neg (by omega), List.drop_eq_nil_of_le (by omega)]
    simp [ofT]
  | d + 1, k + 1, i, out, hi, hk, ho => by
    have h : i < l.length := by omega
    have hw : wrap64 ((i : Int) + 1) = ((i + 1 : Nat) : Int) := by unfold wrap64; omega
    simp only [impl_State_of.l0]
    rw [if_pos (by omega), if_pos (by omega), if_pos (by omega), rd64_at l i h, hw, List.drop_eq_getElem_cons h, ofT_cons]
    by_cases e : l[i].f0 = t
    · rw [if_pos e, if_pos e, if_pos (by omega), of_loop hl t d k (i + 1) _ (by omega) (by omega) (by simp; omega), List.append_assoc]
      rfl
    · rw [if_neg e, if_neg e, of_loop hl t d k (i + 1) _ (by omega) (by omega) (by omega)]
theorem of_eq (hl : l.length ≤ 5000) (t : Int) (k : Nat) (hk : l.length < k) : impl_State_of.f k q f l c w0 w1 w2 h0 h1 h2 t = some (ofT l t) := by
  have := of_loop l hl t l.length k 0 [] (by omega) hk (by simp)
  rw [List.nil_append, List.drop_zero] at this
  exact this
theorem i2_step (hl : l.length ≤ 5000) (t : Int) (ht : 0 ≤ t ∧ t < 3) (k : Nat) (hk : l.length + 2 < k) : ∃ k', k ≤ k' + l.length + 2 ∧ impl_StateOK.l2 k t q f l c w0 w1 w2 h0 h1 h2 = if (inB (at3 t w0 w1 w2) && pc (ofT l t) (at3 t w0 w1 w2) (at3 t h0 h1 h2)) = true then impl_StateOK.l2 k' (wrap64 (t + 1)) q f l c w0 w1 w2 h0 h1 h2 else some false := by
  have hF : (ofT l t).length ≤ l.length := List.length_filter_le _ _
  obtain ⟨k', rfl⟩ : ∃ k', k = k' + (ofT l t).length + 1 + 1 := ⟨k - (ofT l t).length - 2, by omega⟩
  refine ⟨k', by omega, ?_⟩
  have h3 := i3_loop q f l c w0 w1 w2 h0 h1 h2 (ofT l t) (by omega) t ht k' (ofT l t).length 0 (at3 t w0 w1 w2) (by omega)
  rw [List.drop_zero, show ((0 : Nat) : Int) = 0 from rfl] at h3
  rw [impl_StateOK.l2, if_pos ht.2, if_pos ht.1, within_eq, Option.bind_some, of_eq q f l c w0 w1 w2 h0 h1 h2 hl t _ (by omega), Option.bind_some, h3]
  unfold inB
  cases (decide (0 ≤ at3 t w0 w1 w2) && decide (at3 t w0 w1 w2 ≤ 100000)) <;> simp
theorem i2_eq (hl : l.length ≤ 5000) (k : Nat) (hk : 20000 < k) : impl_StateOK.l2 k 0 q f l c w0 w1 w2 h0 h1 h2 = some ((inB w0 && pc (ofT l 0) w0 h0) && ((inB w1 && pc (ofT l 1) w1 h1) && (inB w2 && pc (ofT l 2) w2 h2))) := by
  obtain ⟨k1, hk1, e1⟩ := i2_step q f l c w0 w1 w2 h0 h1 h2 hl 0 (by decide) k (by omega)
  obtain ⟨k2, hk2, e2⟩ := i2_step q f l c w0 w1 w2 h0 h1 h2 hl 1 (by decide) k1 (by omega)
  obtain ⟨k3, hk3, e3⟩ := i2_step q f l c w0 w1 w2 h0 h1 h2 hl 2 (by decide) k2 (by omega)
  obtain ⟨k4, rfl⟩ : ∃ k4, k3 = k4 + 1 := ⟨k3 - 1, by omega⟩
  have e4 : impl_StateOK.l2 (k4 + 1) 3 q f l c w0 w1 w2 h0 h1 h2 = some true := by rw [impl_StateOK.l2, if_neg (by decide)]
  rw [w01, at3_0, at3_0] at e1
  rw [w12, at3_1, at3_1] at e2
  rw [w23, at3_2, at3_2, e4] at e3
  rw [e1, e2, e3]
  cases (inB w0 && pc (ofT l 0) w0 h0) <;> cases (inB w1 && pc (ofT l 1) w1 h1) <;> cases (inB w2 && pc (ofT l 2) w2 h2) <;> rfl
theorem i1_end (k : Nat) (M : List ByteArray) : impl_StateOK.l1 (k + 1) c (c.length : Int) (c.length : Int) q f l c w0 w1 w2 h0 h1 h2 M = if (M.length : Int) = wrap64 ((l.length : Int) + (c.length : Int)) then impl_StateOK.l2 k 0 q f l c w0 w1 w2 h0 h1 h2 else some false := by
  rw [impl_StateOK.l1, if_neg (Int.lt_irrefl _)]
theorem i1_round (k : Nat) (hk : 1048700 ≤ k) (i : Nat) (h : i < c.length) (hz : c[i].f1.size ≤ 1048576) (M : List ByteArray) (hm : M.length < 100000) (hw : wrap64 ((i : Int) + 1) = ((i + 1 : Nat) : Int)) :
    impl_StateOK.l1 (k + 1) c (c.length : Int) (i : Int) q f l c w0 w1 w2 h0 h1 h2 M = if tB q c[i] = true then impl_StateOK.l1 k c (c.length : Int) ((i + 1 : Nat) : Int) q f l c w0 w1 w2 h0 h1 h2 (insK c[i].f1 M) else some false := by
  have q1 : (i : Int) < (c.length : Int) := Int.ofNat_lt.2 h
  have q2 : (0 : Int) ≤ (i : Int) := Int.natCast_nonneg _
  obtain ⟨_, _, _, x, y, z, _, g1, _⟩ := kB_at c[i].f1 hz k hk
  rw [impl_StateOK.l1, if_pos q1, if_pos q2, if_pos q1, rd71_at c i h, g1, Option.bind_some, tB_eq]
  dsimp only
  generalize kB c[i].f1 = b
  rw [within_eq, Option.bind_some, if_pos (show M.length < 100000 ∧ c[i].f1.size ≤ 140737488351232 from ⟨hm, Nat.le_trans hz (by decide)⟩), hw]
  generalize (decide (1 ≤ c[i].f0) && decide (c[i].f0 ≤ q)) = b2
  cases b <;> cases b2 <;> simp
theorem i1_loop (hc : c.length ≤ 5000) (hs : ∀ t ∈ c, t.f1.size ≤ 1048576) (k' : Nat) (hk' : 1048700 ≤ k') (d : Nat) : ∀ (i : Nat) (M : List ByteArray), i + d = c.length → M.length + d ≤ 10000 →
    impl_StateOK.l1 (k' + d + 1) c (c.length : Int) (i : Int) q f l c w0 w1 w2 h0 h1 h2 M = if (c.drop i).all (tB q) = true then (if ((insAll M ((c.drop i).map (·.f1))).length : Int) = wrap64 ((l.length : Int) + (c.length : Int)) then impl_StateOK.l2 k' 0 q f l c w0 w1 w2 h0 h1 h2 else some false) else some false := by
  induction d with
  | zero =>
    intro i M hi hM
    obtain rfl : i = c.length := hi
    rw [Nat.add_zero, i1_end, List.drop_length, List.all_nil, if_pos rfl, List.map_nil, insAll_nil]
  | succ d ihd =>
    intro i M hi hM
    have h : i < c.length := by omega
    have hm : M.length < 100000 := by omega
    have hi2 : i + 1 + d = c.length := by omega
    have hkk : 1048700 ≤ k' + d + 1 := by omega
    have hI := insK_len c[i].f1 M
    have hM2 : (insK c[i].f1 M).length + d ≤ 10000 := by omega
    have hw : wrap64 ((i : Int) + 1) = ((i + 1 : Nat) : Int) := by clear ihd hM2 hI; unfold wrap64; omega
    rw [← Nat.add_assoc, i1_round q f l c w0 w1 w2 h0 h1 h2 (k' + d + 1) hkk i h (hs _ (List.getElem_mem h)) M hm hw, ihd (i + 1) (insK c[i].f1 M) hi2 hM2, List.drop_eq_getElem_cons h, List.all_cons, List.map_cons, insAll_cons]
    cases tB q c[i] with
    | false => rw [if_neg (by decide), Bool.false_and, if_neg (by decide)]
    | true => rw [if_pos rfl, Bool.true_and]
theorem i0_loop (hl : l.length ≤ 5000) (hls : ∀ x ∈ l, x.f3.size ≤ 1048576) (k' : Nat) : ∀ (d i : Nat) (M : List ByteArray), i + d = l.length → M.length + d ≤ 10000 →
    impl_StateOK.l0 (k' + d + 1) l (l.length : Int) (i : Int) q f l c w0 w1 w2 h0 h1 h2 M = impl_StateOK.l1 k' c (c.length : Int) 0 q f l c w0 w1 w2 h0 h1 h2 (insAll M ((l.drop i).map (·.f3)))
  | 0, i, M, hi, hM => by
    rw [impl_StateOK.l0, if_neg (by omega), List.drop_eq_nil_of_le (by omega)]
    rfl
  | d + 1, i, M, hi, hM => by
    have h : i < l.length := by omega
    have hw : wrap64 ((i : Int) + 1) = ((i + 1 : Nat) : Int) := by unfold wrap64; omega
    have hI := insK_len l[i].f3 M
    have ih := i0_loop hl hls k' d (i + 1) (insK l[i].f3 M) (by omega) (by omega)
    have hx := hls l[i] (List.getElem_mem h)
    have hg : M.length < 100000 ∧ l[i].f3.size ≤ 140737488351232 := ⟨by omega, by omega⟩
    rw [impl_StateOK.l0, if_pos (by omega), if_pos (by omega), if_pos (by omega), rd64_at l i h, if_pos hg, hw, List.drop_eq_getElem_cons h, List.map_cons]
    exact ih
theorem entries_all (hl : l.length ≤ 1048576) (hls : ∀ x ∈ l, x.f3.size ≤ 1048576) (k : Nat) (hk : 1048700 ≤ k) : impl_Entry.f k l = some (l.all eB) := by
  unfold impl_Entry.f
  rw [if_pos ⟨by
    rw [List.all_eq_true]
    intro x hx
    rw [okE_at x (hls x hx) k hk]
    rfl, by omega⟩]
  congr 1
  rw [Bool.eq_iff_iff, List.all_eq_true, List.all_eq_true]
  exact ⟨fun h x hx => by have := h x hx; rw [okE_at x (hls x hx) k hk] at this; cases hq : eB x <;> simp [hq] at this ⊢, fun h x hx => by have := h x hx; rw [okE_at x (hls x hx) k hk, this]; rfl⟩
theorem istate_eq (hl : l.length ≤ 1048576) (hc : c.length ≤ 1048576) (hls : ∀ x ∈ l, x.f3.size ≤ 1048576) (hs : ∀ t ∈ c, t.f1.size ≤ 1048576) (k : Nat) (hk : 1070000 < k) : impl_StateOK.f k q f l c w0 w1 w2 h0 h1 h2 = some (stB q f l c w0 w1 w2 h0 h1 h2) := by
  have hw : wrap64 ((l.length : Int) + (c.length : Int)) = (l.length : Int) + (c.length : Int) := by unfold wrap64; omega
  have ht : impl_StateOK.j0 k true q f l c w0 w1 w2 h0 h1 h2 = some false := by
    obtain ⟨k, rfl⟩ : ∃ m, k = m + 1 := ⟨k - 1, by omega⟩
    simp only [impl_StateOK.j0, if_true]
  have hE := entries_all l hl hls k (by omega)
  unfold impl_StateOK.f impl_isSix.f stB
  simp only [within_eq, Option.bind_some, hw, ht, hE]
  cases (decide (0 ≤ q) && decide (q ≤ 999999)) with
  | false => simp
  | true =>
    cases (decide (0 ≤ f) && decide (f ≤ 999999)) with
    | false => simp
    | true =>
      rw [if_pos rfl, if_pos rfl]
      by_cases hn : (l.length : Int) + (c.length : Int) > 4096
      · rw [if_pos hn, decide_eq_true hn]; rfl
      · rw [if_neg hn, decide_eq_false hn]
        cases hA : l.all eB with
        | false => rw [Bool.not_false, ht]; rfl
        | true =>
          have htier : ∀ x ∈ l, 0 ≤ x.f0 ∧ x.f0 ≤ 2 := fun x hx => eB_tier x (hls x hx) (List.all_eq_true.1 hA x hx)
          have hlen := insAll_len (l.map (·.f3) ++ c.map (·.f1)) []
          have happ : insAll (insAll [] (l.map (·.f3))) (c.map (·.f1)) = insAll [] (l.map (·.f3) ++ c.map (·.f1)) := by unfold insAll; rw [List.foldl_append]
          have hM : (insAll [] (l.map (·.f3))).length ≤ l.length := by have := (insAll_len (l.map (·.f3)) []).1; simpa using this
          obtain ⟨k', rfl⟩ : ∃ k', k = k' + c.length + 1 + l.length + 1 + 1 := ⟨k - c.length - l.length - 3, by omega⟩
          have e0 := i0_loop q f l c w0 w1 w2 h0 h1 h2 (by omega) hls (k' + c.length + 1) l.length 0 [] (by omega) (by simp; omega)
          have e1 := i1_loop q f l c w0 w1 w2 h0 h1 h2 (by omega) hs k' (by omega) c.length 0 (insAll [] (l.map (·.f3))) (by omega) (by omega)
          rw [List.drop_zero, show ((0 : Nat) : Int) = 0 from rfl] at e0 e1
          rw [hw, happ, i2_eq q f l c w0 w1 w2 h0 h1 h2 (by omega) k' (by omega), ← gch_pc w0 w1 w2 h0 h1 h2 l w0 w1 w2 htier] at e1
          rw [Bool.not_true, impl_StateOK.j0, if_neg (by decide), e0, e1]
          rw [List.length_append, List.length_map, List.length_map, List.length_nil, Nat.zero_add] at hlen
          have hD : (((insAll [] (l.map (·.f3) ++ c.map (·.f1))).length : Int) = (l.length : Int) + (c.length : Int)) ↔ dist [] (l.map (·.f3) ++ c.map (·.f1)) = true := by
            rw [← hlen.2]
            omega
          cases hT : c.all (tB q) with
          | false => simp
          | true =>
            rw [if_pos rfl]
            by_cases hd : dist [] (l.map (·.f3) ++ c.map (·.f1)) = true
            · rw [if_pos (hD.2 hd), hd]; simp
            · rw [if_neg (fun h => hd (hD.1 h)), Bool.eq_false_iff.mpr hd]; simp
end
theorem two_same {X : Option (List ByteArray)} {n : Nat} (h : ∃ r, r.length ≤ n ∧ X = some r) : ∃ r : List ByteArray, r.length ≤ n ∧ X = some r ∧ X = some r := by
  obtain ⟨r, h1, h2⟩ := h
  exact ⟨r, h1, h2, h2⟩
theorem ite_ex {p : Prop} [Decidable p] {A B : Option (List ByteArray)} {n : Nat} (h1 : ∃ r : List ByteArray, r.length ≤ n ∧ A = some r) (h2 : ∃ r : List ByteArray, r.length ≤ n ∧ B = some r) : ∃ r : List ByteArray, r.length ≤ n ∧ (if p then A else B) = some r := by
  by_cases h : p
  · rw [if_pos h]; exact h1
  · rw [if_neg h]; exact h2
section
variable (q f : Int) (l : List S64) (c : List S71) (w0 w1 w2 h0 h1 h2 : Int)
/-- whether a key is named by an entry or a tomb -/
def nmB (s : ByteArray) : Bool := (l.any fun x => x.f3.toList == s.toList) || (c.any fun x => x.f1.toList == s.toList)
theorem named1 (hc : c.length ≤ 1048576) (s : ByteArray) : ∀ (d k i : Nat), i + d = c.length → d < k → spec_l06Named.l1 k s (i : Int) q f l c w0 w1 w2 h0 h1 h2 = some ((c.drop i).any fun x => x.f1.toList == s.toList)
  | 0, 0, _, _, hk => by omega
  | d + 1, 0, _, _, hk => by omega
  | 0, k + 1, i, hi, _ => by
    rw [spec_l06Named.l1, if_neg (by omega), List.drop_eq_nil_of_le (by omega)]
    rfl
  | d + 1, k + 1, i, hi, hk => by
    have h : i < c.length := by omega
    have hw : wrap64 ((i : Int) + 1) = ((i + 1 : Nat) : Int) := by unfold wrap64; omega
    rw [spec_l06Named.l1, if_pos (by omega), if_pos (by omega), rd71_at c i h, hw, named1 hc s d k (i + 1) (by omega) (by omega), List.drop_eq_getElem_cons h, List.any_cons]
    by_cases e : c[i].f1.toList = s.toList
    · rw [if_pos e, beq_iff_eq.mpr e, Bool.true_or]
    · rw [if_neg e, beq_eq_false_iff_ne.mpr e, Bool.false_or]
theorem named0 (hl : l.length ≤ 1048576) (hc : c.length ≤ 1048576) (s : ByteArray) : ∀ (d k i : Nat), i + d = l.length → d + c.length + 1 < k → spec_l06Named.l0 k s (i : Int) q f l c w0 w1 w2 h0 h1 h2 = some (((l.drop i).any fun x => x.f3.toList == s.toList) || (c.any fun x => x.f1.toList == s.toList))
  | 0, 0, _, _, hk => by omega
  | d + 1, 0, _, _, hk => by omega
  | 0, k + 1, i, hi, hk => by
    have := named1 q f l c w0 w1 w2 h0 h1 h2 hc s c.length k 0 (by omega) (by omega)
    rw [List.drop_zero, show ((0 : Nat) : Int) = 0 from rfl] at this
    rw [spec_l06Named.l0, if_neg (by omega), this, List.drop_eq_nil_of_le (by omega), List.any_nil, Bool.false_or]
  | d + 1, k + 1, i, hi, hk => by
    have h : i < l.length := by omega
    have hw : wrap64 ((i : Int) + 1) = ((i + 1 : Nat) : Int) := by unfold wrap64; omega
    rw [spec_l06Named.l0, if_pos (by omega), if_pos (by omega), rd64_at l i h, hw, named0 hl hc s d k (i + 1) (by omega) (by omega), List.drop_eq_getElem_cons h, List.any_cons]
    by_cases e : l[i].f3.toList = s.toList
    · rw [if_pos e, beq_iff_eq.mpr e, Bool.true_or, Bool.true_or]
    · rw [if_neg e, beq_eq_false_iff_ne.mpr e, Bool.false_or]
theorem named_eq (hl : l.length ≤ 1048576) (hc : c.length ≤ 1048576) (s : ByteArray) (k : Nat) (hk : 3000000 < k) : spec_l06Named.f k q f l c w0 w1 w2 h0 h1 h2 s = some (nmB l c s) := by
  have := named0 q f l c w0 w1 w2 h0 h1 h2 hl hc s l.length k 0 (by omega) (by omega)
  rw [List.drop_zero] at this
  exact this
theorem haskey_eq (hl : l.length ≤ 1048576) (hc : c.length ≤ 1048576) (s : ByteArray) : impl_State_hasKey.f q f l c w0 w1 w2 h0 h1 h2 s = some (nmB l c s) := by
  unfold impl_State_hasKey.f
  rw [if_pos ⟨by omega, by omega⟩]
  rfl
theorem orph_loop (hl : l.length ≤ 1048576) (hc : c.length ≤ 1048576) (L : List ByteArray) (hL : L.length ≤ 4096) (hLs : ∀ s ∈ L, s.size ≤ 1048576) : ∀ (d k i : Nat) (out : List ByteArray), i + d = L.length → d + 4000000 < k → out.length + d ≤ 8192 → ∃ r : List ByteArray, r.length ≤ out.length + d ∧ spec_l07Orphans.l0 k L out (i : Int) q f l c w0 w1 w2 h0 h1 h2 = some r ∧ impl_State_orphans.l0 k out L (L.length : Int) (i : Int) q f l c w0 w1 w2 h0 h1 h2 = some r
  | 0, k, i, out, hi, hk, ho => by
    obtain ⟨k, rfl⟩ : ∃ m, k = m + 1 := ⟨k - 1, by omega⟩
    refine ⟨out, by omega, ?_, ?_⟩
    · rw [spec_l07Orphans.l0, if_neg (by omega)]
    · rw [impl_State_orphans.l0, if_neg (by omega)]
  | d + 1, k, i, out, hi, hk, ho => by
    obtain ⟨k, rfl⟩ : ∃ m, k = m + 1 := ⟨k - 1, by omega⟩
    have h : i < L.length := by omega
    have hw : wrap64 ((i : Int) + 1) = ((i + 1 : Nat) : Int) := by unfold wrap64; omega
    obtain ⟨x, y, z, x', y', z', g1, g2, g3⟩ := kB_at L[i] (hLs _ (List.getElem_mem h)) k (by omega)
    obtain ⟨r1, l1, u1, v1⟩ := orph_loop hl hc L hL hLs d k (i + 1) out (by omega) (by omega) (by omega)
    obtain ⟨r2, l2, u2, v2⟩ := orph_loop hl hc L hL hLs d k (i + 1) (out ++ [L[i]]) (by omega) (by omega) (by simp; omega)
    rw [List.length_append, List.length_singleton] at l2
    have q1 : (i : Int) < (L.length : Int) := by omega
    have q2 : (0 : Int) ≤ (i : Int) := by omega
    have q3 : out.length < 8796093022208 := by omega
    rw [spec_l07Orphans.l0, impl_State_orphans.l0]
    simp only [if_pos q1, if_pos q2, if_pos q3, rdS_at L i h, hw, g1, g2, Option.bind_some, named_eq q f l c w0 w1 w2 h0 h1 h2 hl hc L[i] k (by omega), haskey_eq q f l c w0 w1 w2 h0 h1 h2 hl hc L[i], u1, u2, v1, v2]
    clear hw
    cases hk : kB L[i] with
    | false =>
      try rw [if_neg (by decide), if_neg (by decide)]
      exact ⟨r1, by omega, rfl, rfl⟩
    | true =>
      obtain ⟨rfl, rfl, rfl⟩ := g3 hk
      try rw [if_pos rfl, if_pos rfl]
      apply two_same
      repeat' (first | exact ⟨r1, by omega, rfl⟩ | exact ⟨r2, by omega, rfl⟩ | refine ite_ex ?_ ?_)
theorem orphans_both (hl : l.length ≤ 1048576) (hc : c.length ≤ 1048576) (hls : ∀ x ∈ l, x.f3.size ≤ 1048576) (hs : ∀ t ∈ c, t.f1.size ≤ 1048576) (L : List ByteArray) (hLs : ∀ s ∈ L, s.size ≤ 1048576) (k : Nat) (hk : 5000000 < k) : ∃ (r : List ByteArray) (x : Int), r.length ≤ 8192 ∧ spec_OrphansOf.f (k + 2) q f l c w0 w1 w2 h0 h1 h2 L = some (r, x) ∧ impl_OrphansOf.f (k + 2) q f l c w0 w1 w2 h0 h1 h2 L = some (r, x) ∧ impl_OrphansOf.f k q f l c w0 w1 w2 h0 h1 h2 L = some (r, x) := by
  have f2 : ∀ m, 5000000 < m → ∀ b1 b2 c1 c2, impl_first.f m [anyB b1, anyI c1, anyB b2, anyI c2] = some (if b1 = true then c1 else if b2 = true then c2 else 0) := fun m hm => by
    obtain ⟨m, rfl⟩ : ∃ n, m = n + 3 := ⟨m - 3, by omega⟩
    exact first2 m
  unfold spec_OrphansOf.f impl_OrphansOf.f impl_isLongList_string.f
  simp only [sstate_eq q f l c w0 w1 w2 h0 h1 h2 hl hc hls hs (k + 2) (by omega), istate_eq q f l c w0 w1 w2 h0 h1 h2 hl hc hls hs (k + 2) (by omega), istate_eq q f l c w0 w1 w2 h0 h1 h2 hl hc hls hs k (by omega), Option.bind_some, f2 (k + 2) (by omega), f2 k hk]
  by_cases cl : (L.length : Int) > 4096
  · exact ⟨[], 2, by simp, by simp [cl], by simp [cl], by simp [cl]⟩
  · cases hst : stB q f l c w0 w1 w2 h0 h1 h2 with
    | false => exact ⟨[], 1, by simp, by simp [cl], by simp [cl], by simp [cl]⟩
    | true =>
      obtain ⟨r, hr, u, v⟩ := orph_loop q f l c w0 w1 w2 h0 h1 h2 hl hc L (by omega) hLs L.length (k + 2) 0 [] (by omega) (by omega) (by simp; omega)
      obtain ⟨r', _, _, v'⟩ := orph_loop q f l c w0 w1 w2 h0 h1 h2 hl hc L (by omega) hLs L.length k 0 [] (by omega) (by omega) (by simp; omega)
      rw [show ((0 : Nat) : Int) = 0 from rfl] at u v v'
      have u2 : spec_l07Orphans.f (k + 2) q f l c w0 w1 w2 h0 h1 h2 L = some r := u
      have v2 : impl_State_orphans.f (k + 2) q f l c w0 w1 w2 h0 h1 h2 L = some r := v
      have v3 : impl_State_orphans.f k q f l c w0 w1 w2 h0 h1 h2 L = some r' := v'
      have m1 := impl_State_orphans.mono q f l c w0 w1 w2 h0 h1 h2 L k _ v3
      have m2 := impl_State_orphans.mono q f l c w0 w1 w2 h0 h1 h2 L (k + 1) _ m1
      have e : some r' = some r := m2.symm.trans v2
      obtain rfl := Option.some.inj e
      rw [List.length_nil] at hr
      exact ⟨r', 0, by omega, by simp [cl, u2], by simp [cl, v2], by simp [cl, v3]⟩
end
theorem eqIA (a b c : Int) : laws_eqIntA3.f a b c a b c = some true := by simp [laws_eqIntA3.f]
theorem FnExactOrphansOf : laws_FnExactOrphansOf.Pure := by
  intro q f a c w0 w1 w2 h0 h1 h2 L _ _ ⟨_, ha, sa⟩ ⟨_, hc, sc⟩ _ _ _ _ _ _ ⟨_, hL, sL⟩
  obtain ⟨K, hK⟩ : ∃ K : Nat, K = 6000000 := ⟨_, rfl⟩
  refine ⟨K + 3, ?_⟩
  unfold laws_FnExactOrphansOf.f laws_szState.f
  obtain ⟨r1, s1, b1⟩ := szEntryS_tot a (fun x hx => (sa x hx).2.2.2) 1048576 (by omega) (by omega) (by omega) (K + 3) (by omega)
  rw [s1]
  simp only [Option.bind_some]
  by_cases ca : r1 < 0
  · simp [ca]
  have b1 := b1 (by omega)
  obtain ⟨r2, s2, b2⟩ := szTombS_tot c (fun x hx => (sc x hx).2) r1 (by omega) (by omega) (by omega) (K + 3) (by omega)
  simp only [ca, if_false, Option.bind_some, s2]
  by_cases cb : r2 < 0
  · simp [cb]
  have b2 := b2 (by omega)
  obtain ⟨r3, s3, b3⟩ := szStringS_tot L sL r2 (by omega) (by omega) (by omega) (K + 3) (by omega)
  simp only [cb, if_false, Option.bind_some, s3]
  by_cases cc : r3 < 0
  · simp [cc]
  have b3 := b3 (by omega)
  have la : (a.map cvEntry).length = a.length := by simp
  have lc : (c.map cvTomb).length = c.length := by simp
  have hls : ∀ x ∈ a.map cvEntry, x.f3.size ≤ 1048576 := fun x hx => by
    obtain ⟨y, hy, rfl⟩ := List.mem_map.1 hx
    have := b1.2.2 y hy
    show y.f3.size ≤ 1048576
    omega
  have hs : ∀ t ∈ c.map cvTomb, t.f1.size ≤ 1048576 := fun x hx => by
    obtain ⟨y, hy, rfl⟩ := List.mem_map.1 hx
    have := b2.2.2 y hy
    show y.f1.size ≤ 1048576
    omega
  have hLs : ∀ s ∈ L, s.size ≤ 1048576 := fun s hs => by have := b3.2.2 s hs; omega
  obtain ⟨r, x, hr, e1, e2, e4⟩ := orphans_both q f (a.map cvEntry) (c.map cvTomb) w0 w1 w2 h0 h1 h2 (by omega) (by omega) hls hs L hLs (K + 1) (by omega)
  have j2 : laws_FnExactOrphansOf.j2 (K + 1) (marksString r.length 1) (1 + 1 * (r.length : Int)) false = some true := by
    rw [laws_FnExactOrphansOf.j2, if_neg (by decide), heldStringS_eq r.length 1 K (by omega) (by omega) (by omega) (by omega), Option.bind_some, if_neg (by omega)]
    first | rw [if_pos rfl] | rw [if_pos trivial]
  have j1 : laws_FnExactOrphansOf.j1 (K + 2) L r x r false q f a c w0 w1 w2 h0 h1 h2 = some true := by
    rw [laws_FnExactOrphansOf.j1, if_neg (by decide), markStringS_eq r 1 (K + 1) (by omega) (by omega) (by omega) (by omega), Option.bind_some]
    dsimp only
    rw [heldStringS_eq r.length 1 (K + 1) (by omega) (by omega) (by omega) (by omega), Option.bind_some, if_neg (by omega), if_pos rfl]
    unfold laws_toState.f laws_toIntA3.f
    rw [toEntryS_eq a (by omega) (K + 1) (by omega), Option.bind_some, toTombS_eq c (by omega) (K + 1) (by omega), Option.bind_some]
    simp only [Option.bind_some]
    rw [toS_same L (by omega) (K + 1) (by omega), Option.bind_some, e4, Option.bind_some]
    dsimp only
    rw [eqStringS_same r (by omega) (K + 1) (by omega), Option.bind_some, if_pos rfl, bne_self_eq_false]
    exact j2
  have j0 : laws_FnExactOrphansOf.j0 (K + 3) L r x L r x false q f a c w0 w1 w2 h0 h1 h2 q f (a.map cvEntry) (c.map cvTomb) w0 w1 w2 h0 h1 h2 = some true := by
    rw [laws_FnExactOrphansOf.j0, if_neg (by decide)]
    unfold laws_toState.f laws_toIntA3.f laws_eqState.f laws_markState.f
    rw [toEntryS_eq a (by omega) (K + 2) (by omega), Option.bind_some, toTombS_eq c (by omega) (K + 2) (by omega), Option.bind_some]
    simp only [Option.bind_some, eqIA, if_true]
    rw [eqEntryS_same (a.map cvEntry) (by omega) (K + 2) (by omega), Option.bind_some, if_pos rfl, eqTombS_same (c.map cvTomb) (by omega) (K + 2) (by omega), Option.bind_some, if_pos rfl, Option.bind_some, if_pos rfl]
    rw [toS_same L (by omega) (K + 2) (by omega), Option.bind_some, eqStringS_same L (by omega) (K + 2) (by omega), Option.bind_some, if_pos rfl]
    rw [markEntryS_eq (a.map cvEntry) 1 (K + 2) (by omega) (by omega) (by omega) (by omega), Option.bind_some]
    dsimp only
    rw [markTombS_eq (c.map cvTomb) _ (K + 2) (by omega) (by omega) (by omega) (by omega), Option.bind_some, Option.bind_some]
    dsimp only
    rw [markStringS_eq L _ (K + 2) (by omega) (by omega) (by omega) (by omega), Option.bind_some]
    dsimp only
    rw [if_neg (by omega), eqStringS_same r (by omega) (K + 2) (by omega), Option.bind_some, if_pos rfl, bne_self_eq_false]
    exact j1
  unfold laws_toState.f laws_toIntA3.f
  rw [if_neg cc, toEntryS_eq a (by omega) (K + 3) (by omega), Option.bind_some, toTombS_eq c (by omega) (K + 3) (by omega), Option.bind_some]
  simp only [Option.bind_some]
  rw [toS_same L (by omega) (K + 3) (by omega), Option.bind_some, e1, Option.bind_some, Option.bind_some, e2, Option.bind_some]
  dsimp only
  rw [eqStringS_same r (by omega) (K + 3) (by omega), Option.bind_some, if_pos rfl, bne_self_eq_false]
  exact j0

end Go.Proofs.YtfondhlknkhmmaaGreatDoor.Pure
