/- The pure law of FnExactPutVersion: what the printed functions compute answers true for every input of the kinds and sizes that the statement gives. -/
import Derived.Test.YtbodkbaniebfaaaKinFnExactPutVersion
namespace Go.Proofs.Ytbodkbaniebfaaa.Pure
open Go.RowKit Go.Proofs.YtbodkbaniebfaaaW.PrintWords Go.Proofs.YtbodkbaniebfaaaW.PrintLast Go.Proofs.Ytbodkbaniebfaaa.XFnExactPutVersion
set_option linter.unusedSimpArgs false
set_option linter.unusedVariables false

-- BODY
theorem within_eq (a b c : Int) : impl_within.f a b c = some (decide (b ≤ a) && decide (a ≤ c)) := by
  unfold impl_within.f; by_cases h : b ≤ a <;> simp [h]
theorem in_eq (a b c : Int) : spec_l01In.f a b c = some (decide (b ≤ a) && decide (a ≤ c)) := by
  unfold spec_l01In.f; by_cases h : b ≤ a <;> simp [h]
theorem first2 (k : Nat) (b1 b2 : Bool) (c1 c2 : Int) : impl_first.f (k + 3) [anyB b1, anyI c1, anyB b2, anyI c2] = some (if b1 = true then c1 else if b2 = true then c2 else 0) := by
  have w1 : wrap64 1 = 1 := by unfold wrap64; omega
  have w2 : wrap64 2 = 2 := by unfold wrap64; omega
  have w3 : wrap64 3 = 3 := by unfold wrap64; omega
  have w4 : wrap64 4 = 4 := by unfold wrap64; omega
  have w5 : wrap64 5 = 5 := by unfold wrap64; omega
  cases b1 <;> cases b2 <;> simp [impl_first.f, impl_first.l0, w1, w2, w3, w4, w5, rdOf, anyAsB, anyAsI]
theorem first3 (k : Nat) (b1 b2 b3 : Bool) (c1 c2 c3 : Int) : impl_first.f (k + 4) [anyB b1, anyI c1, anyB b2, anyI c2, anyB b3, anyI c3] = some (if b1 = true then c1 else if b2 = true then c2 else if b3 = true then c3 else 0) := by
  have w1 : wrap64 1 = 1 := by unfold wrap64; omega
  have w2 : wrap64 2 = 2 := by unfold wrap64; omega
  have w3 : wrap64 3 = 3 := by unfold wrap64; omega
  have w4 : wrap64 4 = 4 := by unfold wrap64; omega
  have w5 : wrap64 5 = 5 := by unfold wrap64; omega
  have w6 : wrap64 6 = 6 := by unfold wrap64; omega
  have w7 : wrap64 7 = 7 := by unfold wrap64; omega
  cases b1 <;> cases b2 <;> cases b3 <;> simp [impl_first.f, impl_first.l0, w1, w2, w3, w4, w5, w6, w7, rdOf, anyAsB, anyAsI]
/-- list places, as the printed loops spell them -/
theorem cast_wrap {i n : Nat} (h : i < n) (hn : n ≤ 140737488351232) : wrap64 ((i : Int) + 1) = ((i + 1 : Nat) : Int) := by unfold wrap64; omega
theorem take_set_succ {α : Type} (l : List α) (i : Nat) (v : α) (h : i < l.length) : (l.set i v).take (i + 1) = l.take i ++ [v] := by
  rw [List.take_succ_eq_append_getElem (by simpa using h)]
  simp only [List.take_set, List.getElem_set_self]
  rw [List.set_eq_of_length_le (by simp; omega)]
theorem strOf_one (c : Int) : (strOfNums [c]).size = 1 := by rfl
theorem markText_loop (d : Nat) : ∀ (k : Nat) (x : Int) (s : ByteArray), 0 ≤ x → x ≤ 9223372036854775807 → x < 10 ^ d → d < k → s.size + d ≤ 100 → ∃ r, laws_markText.l0 k x s = some r := by
  induction d with
  | zero =>
    intro k x s h0 h2 h1 hk hs
    obtain ⟨k, rfl⟩ : ∃ m, k = m + 1 := ⟨k - 1, by omega⟩
    simp only [laws_markText.l0]
    rw [if_neg (by omega), if_pos (by omega)]
    exact ⟨_, rfl⟩
  | succ d ih =>
    intro k x s h0 h2 h1 hk hs
    obtain ⟨k, rfl⟩ : ∃ m, k = m + 1 := ⟨k - 1, by omega⟩
    simp only [laws_markText.l0, Option.bind_some]
    by_cases hx : x > 0
    · rw [if_pos hx, strOf_one, if_pos (by omega)]
      have hp : (10 : Int) ^ (d + 1) = 10 ^ d * 10 := Int.pow_succ 10 d
      rw [hp] at h1
      generalize (10 : Int) ^ d = q at *
      have hd : Int.tdiv x 10 = x / 10 := Int.tdiv_eq_ediv_of_nonneg h0
      have hw : wrap64 (Int.tdiv x 10) = x / 10 := by
        rw [hd]
        unfold wrap64
        omega
      rw [hw]
      refine ih k _ _ (by omega) (by omega) (by omega) (by omega) ?_
      rw [ByteArray.size_append, strOf_one]
      omega
    · rw [if_neg hx, if_pos (by omega)]
      exact ⟨_, rfl⟩
/-- the mark of place m -/
def mt (m : Int) : ByteArray := (laws_markText.f 20 m).getD ⟨#[]⟩
theorem mt_eq (m : Int) (h0 : 0 ≤ m) (h1 : m < 1000000000000000) (k : Nat) (hk : 20 ≤ k) : laws_markText.f k m = some (mt m) := by
  have h20 : laws_markText.f 20 m = some (mt m) := by
    have : ∃ r, laws_markText.f 20 m = some r := by
      unfold laws_markText.f
      by_cases hm : m ≤ 0
      · rw [if_pos hm]; exact ⟨_, rfl⟩
      · rw [if_neg hm]
        exact markText_loop 15 20 m _ (by omega) (by omega) (by rw [show (10 : Int) ^ 15 = 1000000000000000 by decide]; exact h1) (by omega) (by decide)
    obtain ⟨r, hr⟩ := this
    unfold mt
    rw [hr]
    rfl
  obtain ⟨d, rfl⟩ : ∃ d, k = 20 + d := ⟨k - 20, by omega⟩
  clear hk
  induction d with
  | zero => exact h20
  | succ d ih => exact laws_markText.mono m (20 + d) _ ih
theorem rd71_at (l : List S71) (i : Nat) (h : i < l.length) : rd_T71 l (i : Int) = l[i] := by
  unfold rd_T71; rw [Int.toNat_natCast, List.getD_eq_getElem?_getD, List.getElem?_eq_getElem h]; rfl
theorem rd70_at (l : List S70) (i : Nat) (h : i < l.length) : rd_T70 l (i : Int) = l[i] := by
  unfold rd_T70; rw [Int.toNat_natCast, List.getD_eq_getElem?_getD, List.getElem?_eq_getElem h]; rfl
def cvObject (x : S70) : S71 := ⟨x.f0, x.f1, x.f2⟩
theorem toObjectS_loop (l : List S70) (hl : l.length ≤ 1048576) (d : Nat) : ∀ (k i : Nat) (x : List S71), x.length = l.length → i ≤ l.length → l.length - i = d → d < k →
    laws_toObjectS.l0 k l x (i : Int) = some (x.take i ++ (l.drop i).map cvObject) := by
  induction d with
  | zero =>
    intro k i x hx hi hd hk
    obtain ⟨k, rfl⟩ : ∃ m, k = m + 1 := ⟨k - 1, by omega⟩
    obtain rfl : i = l.length := by omega
    simp only [laws_toObjectS.l0]
    rw [if_neg (by omega), List.drop_length, List.map_nil, List.append_nil, ← hx, List.take_length]
  | succ d ih =>
    intro k i x hx hi hd hk
    obtain ⟨k, rfl⟩ : ∃ m, k = m + 1 := ⟨k - 1, by omega⟩
    have hlt : i < l.length := by omega
    simp only [laws_toObjectS.l0, laws_toObject.f, Option.bind_some]
    rw [if_pos (by omega), if_pos (by omega), if_pos (by omega), rd70_at l i hlt, cast_wrap hlt (by omega), ih k (i + 1) _ (by simpa using hx) (by omega) (by omega) (by omega), Int.toNat_natCast, take_set_succ _ _ _ (by omega),
      List.drop_eq_getElem_cons hlt, List.map_cons, List.append_assoc]
    rfl
theorem toObjectS_eq (l : List S70) (hl : l.length ≤ 1048576) (k : Nat) (hk : l.length < k) : laws_toObjectS.f k l = some (l.map cvObject) := by
  unfold laws_toObjectS.f
  rw [if_pos (by omega), if_pos (by omega)]
  have := toObjectS_loop l hl l.length k 0 (List.replicate ((l.length : Int)).toNat z71) (by simp) (by omega) (by omega) hk
  refine Eq.trans this ?_
  simp
theorem eqObject_same (x0 : ByteArray) (x1 : Int) (x2 : ByteArray) : laws_eqObject.f x0 x1 x2 x0 x1 x2 = some true := by simp [laws_eqObject.f]
theorem eqObjectS_loop (a : List S71) (hl : a.length ≤ 1048576) (d : Nat) : ∀ (k i : Nat), i ≤ a.length → a.length - i = d → d < k → laws_eqObjectS.l0 k a a (i : Int) = some true := by
  induction d with
  | zero =>
    intro k i hi hd hk
    obtain ⟨k, rfl⟩ : ∃ m, k = m + 1 := ⟨k - 1, by omega⟩
    simp only [laws_eqObjectS.l0]
    rw [if_neg (by omega)]
  | succ d ih =>
    intro k i hi hd hk
    obtain ⟨k, rfl⟩ : ∃ m, k = m + 1 := ⟨k - 1, by omega⟩
    have hlt : i < a.length := by omega
    simp only [laws_eqObjectS.l0]
    rw [if_pos (by omega), if_pos (by omega), if_pos (by omega), eqObject_same, cast_wrap hlt (by omega), ih k (i + 1) (by omega) (by omega) (by omega)]
    simp
theorem eqObjectS_same (a : List S71) (hl : a.length ≤ 1048576) (k : Nat) (hk : a.length < k) : laws_eqObjectS.f k a a = some true := by
  unfold laws_eqObjectS.f
  rw [if_pos rfl]
  exact eqObjectS_loop a hl a.length k 0 (by omega) (by omega) hk
/-- the mark of an element -/
def mkObject (m : Int) : S71 := ⟨mt (m), m + 1, mt (m + 1 + 1)⟩
def marksObject : Nat → Int → List S71
  | 0, _ => []
  | d + 1, m => mkObject m :: marksObject d (m + 1 + 1 + 1)
theorem markObjectS_loop (d : Nat) : ∀ (k i : Nat) (l : List S71) (m : Int), i ≤ l.length → l.length - i = d → d + 20 < k → l.length ≤ 1048576 → 0 ≤ m → m + 3 * d ≤ 100000000000000 →
    laws_markObjectS.l0 k l m (i : Int) = some (m + 3 * d, l.take i ++ marksObject d m) := by
  induction d with
  | zero =>
    intro k i l m hi hd hk hl h0 hm
    obtain ⟨k, rfl⟩ : ∃ m, k = m + 1 := ⟨k - 1, by omega⟩
    obtain rfl : i = l.length := by omega
    simp only [laws_markObjectS.l0]
    rw [if_neg (by omega)]
    simp [marksObject]
  | succ d ih =>
    intro k i l m hi hd hk hl h0 hm
    obtain ⟨k, rfl⟩ : ∃ m, k = m + 1 := ⟨k - 1, by omega⟩
    have hlt : i < l.length := by omega
    have hc : ((d + 1 : Nat) : Int) = (d : Int) + 1 := by omega
    rw [hc] at hm
    have w1 : wrap64 (m + 1) = m + 1 := by unfold wrap64; omega
    have w2 : wrap64 (m + 1 + 1) = m + 1 + 1 := by unfold wrap64; omega
    have w3 : wrap64 (m + 1 + 1 + 1) = m + 1 + 1 + 1 := by unfold wrap64; omega
    have rs : ∀ (l : List S71) (v : S71), i < l.length → rd_T71 (l.set i v) (i : Int) = v := fun l v h => by rw [rd71_at _ _ (by simpa using h), List.getElem_set_self]
    simp only [laws_markObjectS.l0, Option.bind_some, Int.toNat_natCast, mt_eq (m) (by omega) (by omega) k (by omega), mt_eq (m + 1 + 1) (by omega) (by omega) k (by omega), w1, w2, w3]
    rw [if_pos (by omega), if_pos (by omega)]
    simp only [List.set_set, List.length_set, rs _ _ hlt, rd71_at l i hlt, cast_wrap hlt (by omega)]
    rw [ih k (i + 1) _ (m + 1 + 1 + 1) (by simp; omega) (by simp; omega) (by omega) (by simpa using hl) (by omega) (by omega), take_set_succ _ _ _ hlt, List.append_assoc]
    simp only [marksObject, List.singleton_append, Option.some.injEq, Prod.mk.injEq]
    exact ⟨by omega, rfl⟩
theorem markObjectS_eq (l : List S71) (m : Int) (k : Nat) (hk : l.length + 20 < k) (hl : l.length ≤ 1048576) (h0 : 0 ≤ m) (hm : m + 3 * l.length ≤ 100000000000000) : laws_markObjectS.f k l m = some (m + 3 * l.length, marksObject l.length m) := by
  have := markObjectS_loop l.length k 0 l m (by omega) (by omega) hk hl h0 hm
  unfold laws_markObjectS.f
  refine Eq.trans this ?_
  simp
theorem marksObject_length : ∀ (d : Nat) (m : Int), (marksObject d m).length = d
  | 0, _ => rfl
  | d + 1, m => by simp [marksObject, marksObject_length d]
theorem heldObjectS_loop (d : Nat) : ∀ (k : Nat) (p : List S71) (m : Int), d + 20 < k → p.length + d ≤ 1048576 → 0 ≤ m → m + 3 * d ≤ 100000000000000 → laws_heldObjectS.l0 k (p ++ marksObject d m) m (p.length : Int) = some (m + 3 * d) := by
  induction d with
  | zero =>
    intro k p m hk hl h0 hm
    obtain ⟨k, rfl⟩ : ∃ m, k = m + 1 := ⟨k - 1, by omega⟩
    simp only [laws_heldObjectS.l0, marksObject, List.append_nil]
    rw [if_neg (by omega)]
    simp
  | succ d ih =>
    intro k p m hk hl h0 hm
    obtain ⟨k, rfl⟩ : ∃ m, k = m + 1 := ⟨k - 1, by omega⟩
    have hc : ((d + 1 : Nat) : Int) = (d : Int) + 1 := by omega
    rw [hc] at hm
    have hlen : (p ++ marksObject (d + 1) m).length = p.length + (d + 1) := by rw [List.length_append, marksObject_length]
    have hlt : p.length < (p ++ marksObject (d + 1) m).length := by omega
    have hat : rd_T71 (p ++ marksObject (d + 1) m) (p.length : Int) = mkObject m := by rw [rd71_at _ _ hlt]; simp [marksObject]
    have w1 : wrap64 (m + 1) = m + 1 := by unfold wrap64; omega
    have w2 : wrap64 (m + 1 + 1) = m + 1 + 1 := by unfold wrap64; omega
    have w3 : wrap64 (m + 1 + 1 + 1) = m + 1 + 1 + 1 := by unfold wrap64; omega
    have hn := ih k (p ++ [mkObject m]) (m + 1 + 1 + 1) (by omega) (by simp; omega) (by omega) (by omega)
    rw [List.append_assoc, List.singleton_append, show (((p ++ [mkObject m]).length : Nat) : Int) = ((p.length + 1 : Nat) : Int) from by simp] at hn
    simp only [laws_heldObjectS.l0, Option.bind_some, mt_eq (m) (by omega) (by omega) k (by omega), mt_eq (m + 1 + 1) (by omega) (by omega) k (by omega), w1, w2, w3, hat]
    rw [if_pos (by omega), if_pos (by omega), cast_wrap hlt (by omega)]
    simp only [mkObject, ne_eq, not_true_eq_false, if_true, if_false]
    refine Eq.trans hn ?_
    rw [hc]
    exact congrArg some (by omega)
theorem heldObjectS_eq (n : Nat) (m : Int) (k : Nat) (hk : n + 20 < k) (hl : n ≤ 1048576) (h0 : 0 ≤ m) (hm : m + 3 * n ≤ 100000000000000) : laws_heldObjectS.f k (marksObject n m) m = some (m + 3 * n) := by
  have := heldObjectS_loop n k [] m hk (by simpa using hl) h0 hm
  unfold laws_heldObjectS.f
  exact this
theorem szObject_tot (x0 : ByteArray) (x1 : Int) (x2 : ByteArray) (a : Int) (h0 : 0 ≤ a) (h1 : a ≤ 1048576) (hs0 : x0.size ≤ 140737488351232) (hs1 : x2.size ≤ 140737488351232) : ∃ r, laws_szObject.f x0 x1 x2 a = some r ∧ (0 ≤ r → r ≤ a ∧ (x0.size : Int) ≤ a ∧ (x2.size : Int) ≤ a) := by
  unfold laws_szObject.f
  have w0 : wrap64 (a - (x0.size : Int)) = a - (x0.size : Int) := by unfold wrap64; omega
  have w1 : wrap64 (a - (x0.size : Int) - (x2.size : Int)) = a - (x0.size : Int) - (x2.size : Int) := by unfold wrap64; omega
  simp only [w0, w1]
  by_cases c0 : a - (x0.size : Int) < 0
  · rw [if_pos c0]; exact ⟨-1, rfl, fun h => by omega⟩
  rw [if_neg c0]
  by_cases c1 : a - (x0.size : Int) - (x2.size : Int) < 0
  · rw [if_pos c1]; exact ⟨-1, rfl, fun h => by omega⟩
  rw [if_neg c1]
  exact ⟨_, rfl, fun _ => by omega⟩
theorem szObjectS_loop (l : List S70) (hl : l.length ≤ 1048576) (hs : ∀ x ∈ l, x.f0.size ≤ 140737488351232 ∧ x.f2.size ≤ 140737488351232) (d : Nat) : ∀ (k i : Nat) (a : Int), i ≤ l.length → l.length - i = d → d < k → 0 ≤ a → a ≤ 1048576 → ∃ r, laws_szObjectS.l0 k l a (i : Int) = some r ∧ (0 ≤ r → r ≤ a ∧ ∀ j (h : j < l.length), i ≤ j → ((l[j].f0).size : Int) ≤ a ∧ ((l[j].f2).size : Int) ≤ a) := by
  induction d with
  | zero =>
    intro k i a hi hd hk h0 h1
    obtain ⟨k, rfl⟩ : ∃ m, k = m + 1 := ⟨k - 1, by omega⟩
    simp only [laws_szObjectS.l0]
    rw [if_neg (by omega)]
    exact ⟨a, rfl, fun _ => ⟨Int.le_refl _, fun j h hj => by omega⟩⟩
  | succ d ih =>
    intro k i a hi hd hk h0 h1
    obtain ⟨k, rfl⟩ : ∃ m, k = m + 1 := ⟨k - 1, by omega⟩
    have hlt : i < l.length := by omega
    have hsi := hs l[i] (List.getElem_mem hlt)
    obtain ⟨r, hr, hb⟩ := szObject_tot l[i].f0 l[i].f1 l[i].f2 a h0 h1 hsi.1 hsi.2
    simp only [laws_szObjectS.l0]
    rw [if_pos (by omega), if_pos (by omega), rd70_at l i hlt, hr]
    simp only [Option.bind_some]
    by_cases hn : r < 0
    · rw [if_pos hn]; exact ⟨-1, rfl, fun h => by omega⟩
    · rw [if_neg hn, cast_wrap hlt (by omega)]
      have hb' := hb (by omega)
      obtain ⟨q, hq, hqb⟩ := ih k (i + 1) r (by omega) (by omega) (by omega) (by omega) (by omega)
      refine ⟨q, hq, fun h => ⟨by have := hqb h; omega, fun j hj hij => ?_⟩⟩
      have hqb' := hqb h
      by_cases e : j = i
      · subst e; omega
      · have := hqb'.2 j hj (by omega)
        omega
theorem szObjectS_tot (l : List S70) (hs : ∀ x ∈ l, x.f0.size ≤ 140737488351232 ∧ x.f2.size ≤ 140737488351232) (a : Int) (h0 : 0 ≤ a) (h1 : a ≤ 1048576) (hl : l.length ≤ 140737488351232) (k : Nat) (hk : 1048577 < k) : ∃ r, laws_szObjectS.f k l a = some r ∧ (0 ≤ r → r ≤ a ∧ (l.length : Int) ≤ a ∧ ∀ x ∈ l, ((x.f0).size : Int) ≤ a ∧ ((x.f2).size : Int) ≤ a) := by
  unfold laws_szObjectS.f
  have hw : wrap64 (a - (l.length : Int)) = a - (l.length : Int) := by unfold wrap64; omega
  rw [hw]
  by_cases h : a - (l.length : Int) < 0
  · rw [if_pos h]; exact ⟨-1, rfl, fun h => by omega⟩
  · rw [if_neg h]
    obtain ⟨r, hr, hb⟩ := szObjectS_loop l (by omega) hs l.length k 0 (a - l.length) (by omega) (by omega) (by omega) (by omega) (by omega)
    refine ⟨r, hr, fun h => ?_⟩
    have hb' := hb h
    refine ⟨by omega, by omega, fun x hx => ?_⟩
    obtain ⟨j, hj, rfl⟩ := List.getElem_of_mem hx
    have := hb'.2 j hj (by omega)
    omega
/-- a byte that a key may hold -/
def kb (b : Int) : Bool := decide ((48 ≤ b ∧ b ≤ 57) ∨ (97 ≤ b ∧ b ≤ 122) ∨ b = 47 ∨ b = 45)
theorem kspec_round (x : ByteArray) (k : Nat) (i : Int) (h0 : 0 ≤ i) (hl : i < (x.size : Int)) (hw : wrap64 (i + 1) = i + 1) :
    spec_KeyOK.l0 (k + 1) x i = if kb (bt x i) = true then spec_KeyOK.l0 k x (i + 1) else some false := by
  simp only [spec_KeyOK.l0, spec_l00Digit.f, hw]
  rw [if_pos hl, if_pos h0]
  unfold kb
  generalize bt x i = b
  by_cases a1 : b ≥ 48 <;> by_cases a2 : b ≤ 57 <;> by_cases a3 : b < 97 <;> by_cases a4 : b > 122 <;> by_cases a5 : b = 47 <;> by_cases a6 : b = 45 <;>
    first | omega | (simp [a1, a2, a3, a4, a5, a6] <;> omega)
theorem kimpl_round (x : ByteArray) (k : Nat) (i : Int) (h0 : 0 ≤ i) (hl : i < (x.size : Int)) (hw : wrap64 (i + 1) = i + 1) :
    impl_KeyOK.l0 (k + 1) x (x.size : Int) i = if kb (bt x i) = true then impl_KeyOK.l0 k x (x.size : Int) (i + 1) else some false := by
  simp only [impl_KeyOK.l0, hw]
  rw [if_pos hl, if_pos h0, if_pos hl]
  unfold kb
  generalize bt x i = b
  by_cases a1 : b < 48 <;> by_cases a2 : b > 57 <;> by_cases a3 : b < 97 <;> by_cases a4 : b > 122 <;> by_cases a5 : b = 47 <;> by_cases a6 : b = 45 <;>
    first | omega | (simp [a1, a2, a3, a4, a5, a6] <;> omega)
def kFrom (x : ByteArray) (i : Nat) : Bool := ((List.range x.size).drop i).all (fun j => kb (bt x (j : Int))) && (decide (1 ≤ (x.size : Int)) && decide ((x.size : Int) ≤ 30))
theorem kFrom_step (x : ByteArray) (i : Nat) (h : i < x.size) : kFrom x i = (kb (bt x (i : Int)) && kFrom x (i + 1)) := by
  unfold kFrom
  rw [List.drop_eq_getElem_cons (show i < (List.range x.size).length by rw [List.length_range]; exact h), List.all_cons, List.getElem_range, Bool.and_assoc]
theorem key_loops (x : ByteArray) (hn : x.size ≤ 140737488351232) (d : Nat) : ∀ (k i : Nat), i ≤ x.size → x.size - i = d → d < k →
    spec_KeyOK.l0 k x (i : Int) = some (kFrom x i) ∧ impl_KeyOK.l0 k x (x.size : Int) (i : Int) = some (kFrom x i) := by
  induction d with
  | zero =>
    intro k i h1 hd hk
    obtain ⟨k, rfl⟩ : ∃ m, k = m + 1 := ⟨k - 1, by omega⟩
    obtain rfl : i = x.size := by omega
    have e : kFrom x x.size = (decide (1 ≤ (x.size : Int)) && decide ((x.size : Int) ≤ 30)) := by
      unfold kFrom
      rw [List.drop_of_length_le (by rw [List.length_range]; exact Nat.le_refl _)]
      rfl
    simp only [spec_KeyOK.l0, impl_KeyOK.l0, in_eq, within_eq, Option.bind_some]
    rw [if_neg (by omega), e]
    exact ⟨rfl, by rw [if_neg (by omega)]⟩
  | succ d ih =>
    intro k i h1 hd hk
    obtain ⟨k, rfl⟩ : ∃ m, k = m + 1 := ⟨k - 1, by omega⟩
    have hlt : i < x.size := by omega
    have hw : wrap64 ((i : Int) + 1) = (i : Int) + 1 := by unfold wrap64; omega
    obtain ⟨h1, h2⟩ := ih k (i + 1) (by omega) (by omega) (by omega)
    have e : ((i : Int) + 1) = ((i + 1 : Nat) : Int) := by omega
    rw [kspec_round x k i (by omega) (by omega) hw, kimpl_round x k i (by omega) (by omega) hw, e, h1, h2, kFrom_step x i hlt]
    cases kb (bt x (i : Int)) <;> simp
/-- a key -/
def kOK (x : ByteArray) : Bool := kFrom x 0
theorem keyOK_eq (x : ByteArray) (hn : x.size ≤ 140737488351232) (k : Nat) (hk : x.size < k) : spec_KeyOK.f k x = some (kOK x) ∧ impl_KeyOK.f k x = some (kOK x) := by
  obtain ⟨h1, h2⟩ := key_loops x hn x.size k 0 (by omega) (by omega) hk
  unfold spec_KeyOK.f impl_KeyOK.f
  have e : ((0 : Nat) : Int) = 0 := rfl
  rw [e] at h1 h2
  refine ⟨?_, h2⟩
  by_cases h : (x.size : Int) > 65536
  · rw [if_pos h]
    have : kOK x = false := by
      unfold kOK kFrom
      rw [decide_eq_false (show ¬ (x.size : Int) ≤ 30 by omega)]
      simp
    rw [this]
  · rw [if_neg h]
    exact h1
/-- what is asked of the object at place i -/
def dupB (l : List S71) (i : Nat) (v : Int) : Bool := (l.take i).any (fun x => decide (x.f1 = v))
def ordB (l : List S71) (i : Nat) : Bool := decide (i = 0) || Op.bytesLess ((l.getD (i - 1) z71).f0).toList ((l.getD i z71).f0).toList
def objB (l : List S71) (next : Int) (i : Nat) : Bool :=
  kOK (l.getD i z71).f0 && ((decide (1 ≤ (l.getD i z71).f1) && decide ((l.getD i z71).f1 ≤ wrap64 (next - 1))) && (decide (((l.getD i z71).f2.size : Int) ≤ 600) && (ordB l i && !(dupB l i (l.getD i z71).f1))))
def objsB (l : List S71) (next : Int) (i : Nat) : Bool := ((List.range l.length).drop i).all (fun j => objB l next j)
theorem objsB_step (l : List S71) (next : Int) (i : Nat) (h : i < l.length) : objsB l next i = (objB l next i && objsB l next (i + 1)) := by
  unfold objsB
  rw [List.drop_eq_getElem_cons (show i < (List.range l.length).length by rw [List.length_range]; exact h), List.all_cons, List.getElem_range]
theorem objsB_end (l : List S71) (next : Int) : objsB l next l.length = true := by
  unfold objsB
  rw [List.drop_of_length_le (by rw [List.length_range]; exact Nat.le_refl _)]
  rfl
def storeB (l : List S71) (next : Int) : Bool := objsB l next 0 && (decide ((l.length : Int) ≤ 300) && (decide (1 ≤ next) && decide (next ≤ 1000000000)))
theorem dup_loop (l : List S71) (hl : l.length ≤ 1048576) (next v : Int) (a b : ByteArray) (i : Nat) (hi : i < l.length) (d : Nat) : ∀ (k0 j : Nat), j ≤ i → i - j = d →
    spec_StoreOK.l1 (k0 + d + 1) (i : Int) (j : Int) l next a v b = if ((l.take i).drop j).any (fun x => decide (x.f1 = v)) = true then some false else spec_StoreOK.l0 k0 ((i + 1 : Nat) : Int) l next := by
  have hw : wrap64 ((i : Int) + 1) = ((i + 1 : Nat) : Int) := by unfold wrap64; omega
  induction d with
  | zero =>
    intro k0 j hj hd
    obtain rfl : j = i := by omega
    simp only [spec_StoreOK.l1]
    rw [if_neg (by omega), hw, List.drop_of_length_le (by rw [List.length_take]; omega)]
    rfl
  | succ d ih =>
    intro k0 j hj hd
    have hlt : j < i := by omega
    have hwj : wrap64 ((j : Int) + 1) = ((j + 1 : Nat) : Int) := by unfold wrap64; omega
    have hd2 : (l.take i).drop j = l[j]'(by omega) :: (l.take i).drop (j + 1) := by
      rw [List.drop_eq_getElem_cons (show j < (l.take i).length by rw [List.length_take]; omega), List.getElem_take]
    have ihj := ih k0 (j + 1) (by omega) (by omega)
    rw [show k0 + (d + 1) + 1 = (k0 + d + 1) + 1 by omega]
    generalize k0 + d + 1 = K at ihj ⊢
    simp only [spec_StoreOK.l1]
    rw [if_pos (by omega), if_pos (by omega), if_pos (by omega), rd71_at l j (by omega), hwj, ihj, hd2, List.any_cons]
    by_cases hv : (l[j]'(by omega)).f1 = v
    · rw [if_pos hv, decide_eq_true hv]; simp
    · rw [if_neg hv, decide_eq_false hv]; simp
theorem getD_at (l : List S71) (i : Nat) (h : i < l.length) : l.getD i z71 = l[i] := by
  rw [List.getD_eq_getElem?_getD, List.getElem?_eq_getElem h]; rfl
theorem sspec_step (l : List S71) (hl : l.length ≤ 1048576) (next : Int) (i : Nat) (hi : i < l.length) (k0 : Nat) (hk : (l[i]).f0.size < k0) (hs : (l[i]).f0.size ≤ 140737488351232) :
    spec_StoreOK.l0 (k0 + i + 3) (i : Int) l next = if objB l next i = true then spec_StoreOK.l0 k0 ((i + 1 : Nat) : Int) l next else some false := by
  have hd := dup_loop l hl next (l[i]).f1 (l[i]).f0 (l[i]).f2 i hi i k0 0 (by omega) (by omega)
  rw [show k0 + i + 3 = (k0 + i + 1 + 1) + 1 by omega]
  obtain ⟨hkk, _⟩ := keyOK_eq (l[i]).f0 hs (k0 + i + 1 + 1) (by omega)
  have e0 : ((0 : Nat) : Int) = 0 := rfl
  rw [e0, List.drop_zero] at hd
  simp only [spec_StoreOK.l0]
  rw [if_pos (by omega), if_pos (by omega), rd71_at l i hi, hkk]
  simp only [Option.bind_some, in_eq, spec_StoreOK.j1]
  rw [hd]
  unfold objB dupB
  rw [getD_at l i hi]
  cases kOK (l[i]).f0 with
  | false => simp
  | true =>
    simp only [if_true, Bool.true_and]
    cases (decide (1 ≤ (l[i]).f1) && decide ((l[i]).f1 ≤ wrap64 (next - 1))) with
    | false => simp
    | true =>
      simp only [if_true, Bool.true_and]
      by_cases h6 : (((l[i]).f2).size : Int) > 600
      · rw [if_pos h6, decide_eq_false (show ¬ (((l[i]).f2).size : Int) ≤ 600 by omega)]
        simp
      · rw [if_neg h6, decide_eq_true (show (((l[i]).f2).size : Int) ≤ 600 by omega), Bool.true_and]
        rcases Nat.eq_zero_or_pos i with h0 | h0
        · subst h0
          simp [ordB]
        · have hw : wrap64 ((i : Int) - 1) = ((i - 1 : Nat) : Int) := by unfold wrap64; omega
          have hr : rd_T71 l ((i - 1 : Nat) : Int) = l.getD (i - 1) z71 := by unfold rd_T71; rw [Int.toNat_natCast]
          rw [if_pos (by omega), hw, hr]
          unfold ordB
          rw [if_pos (by omega), if_pos (by omega), decide_eq_false (show ¬ i = 0 by omega), Bool.false_or, getD_at l i hi]
          cases Op.bytesLess ((l.getD (i - 1) z71).f0).toList ((l[i]).f0).toList <;> cases (l.take i).any (fun x => decide (x.f1 = (l[i]).f1)) <;> simp
def mets (l : List S71) (i : Nat) : List Int := ((l.take i).map (fun x => x.f1)).reverse
theorem mets_has (l : List S71) (i : Nat) (v : Int) : (mets l i).contains v = dupB l i v := by
  unfold mets dupB
  rw [Bool.eq_iff_iff, List.contains_iff_mem, List.mem_reverse, List.mem_map, List.any_eq_true]
  constructor
  · rintro ⟨x, hx, e⟩; exact ⟨x, hx, by simpa using e⟩
  · rintro ⟨x, hx, e⟩; exact ⟨x, hx, by simpa using e⟩
theorem mets_next (l : List S71) (i : Nat) (h : i < l.length) : (l[i]).f1 :: mets l i = mets l (i + 1) := by
  unfold mets
  rw [List.take_succ_eq_append_getElem h, List.map_append, List.reverse_append]
  rfl
theorem simpl_step (l : List S71) (hl : l.length ≤ 300) (next : Int) (i : Nat) (hi : i < l.length) (k : Nat) (hk : (l[i]).f0.size < k) (hs : (l[i]).f0.size ≤ 140737488351232) :
    impl_StoreOK.l0 (k + 1) l (l.length : Int) (i : Int) l next (mets l i) = if objB l next i = true then impl_StoreOK.l0 k l (l.length : Int) ((i + 1 : Nat) : Int) l next (mets l (i + 1)) else some false := by
  obtain ⟨_, hkk⟩ := keyOK_eq (l[i]).f0 hs k hk
  have hwi : wrap64 ((i : Int) + 1) = ((i + 1 : Nat) : Int) := by unfold wrap64; omega
  have hm : (mets l i).length < 4096 := by unfold mets; rw [List.length_reverse, List.length_map, List.length_take]; omega
  simp only [impl_StoreOK.l0]
  rw [if_pos (by omega), if_pos (by omega), if_pos (by omega), rd71_at l i hi, hkk]
  simp only [Option.bind_some, within_eq, if_pos hm, hwi]
  rw [mets_has, mets_next l i hi]
  unfold objB
  rw [getD_at l i hi]
  cases kOK (l[i]).f0 with
  | false => simp
  | true =>
    simp only [if_true, Bool.true_and]
    cases (decide (1 ≤ (l[i]).f1) && decide ((l[i]).f1 ≤ wrap64 (next - 1))) with
    | false => simp
    | true =>
      simp only [if_true, Bool.true_and]
      by_cases h6 : (((l[i]).f2).size : Int) > 600
      · rw [if_pos h6, decide_eq_false (show ¬ (((l[i]).f2).size : Int) ≤ 600 by omega)]
        simp
      · rw [if_neg h6, decide_eq_true (show (((l[i]).f2).size : Int) ≤ 600 by omega), Bool.true_and]
        rcases Nat.eq_zero_or_pos i with h0 | h0
        · subst h0
          cases dupB l 0 (l[0]).f1 <;> simp [ordB]
        · have hw : wrap64 ((i : Int) - 1) = ((i - 1 : Nat) : Int) := by unfold wrap64; omega
          have hr : rd_T71 l ((i - 1 : Nat) : Int) = l.getD (i - 1) z71 := by unfold rd_T71; rw [Int.toNat_natCast]
          cases dupB l i (l[i]).f1 with
          | true => simp
          | false =>
            simp only [Bool.false_eq_true, if_false]
            rw [if_pos (show (i : Int) > 0 by omega), hw, hr, if_pos (by omega), if_pos (by omega)]
            unfold ordB
            rw [decide_eq_false (show ¬ i = 0 by omega), Bool.false_or, getD_at l i hi]
            cases Op.bytesLess ((l.getD (i - 1) z71).f0).toList ((l[i]).f0).toList <;> simp
theorem sspec_loop (l : List S71) (hl : l.length ≤ 1048576) (S : Nat) (hS : S ≤ 140737488351232) (hs : ∀ x ∈ l, x.f0.size ≤ S) (next : Int) (d : Nat) : ∀ (k i : Nat), i ≤ l.length → l.length - i = d → d * (l.length + 5) + S + 5 < k →
    spec_StoreOK.l0 k (i : Int) l next = some (objsB l next i && (decide ((l.length : Int) ≤ 300) && (decide (1 ≤ next) && decide (next ≤ 1000000000)))) := by
  induction d with
  | zero =>
    intro k i hi hd hk
    obtain ⟨k, rfl⟩ : ∃ m, k = m + 1 := ⟨k - 1, by omega⟩
    obtain rfl : i = l.length := by omega
    simp only [spec_StoreOK.l0, in_eq, Option.bind_some]
    rw [if_neg (by omega), objsB_end, Bool.true_and]
    by_cases h : (l.length : Int) ≤ 300
    · rw [if_pos h, decide_eq_true h, Bool.true_and]
    · rw [if_neg h, decide_eq_false h, Bool.false_and]
  | succ d ih =>
    intro k i hi hd hk
    have hlt : i < l.length := by omega
    have hm : (d + 1) * (l.length + 5) = d * (l.length + 5) + (l.length + 5) := Nat.succ_mul _ _
    have hx := hs l[i] (List.getElem_mem hlt)
    generalize d * (l.length + 5) = D at hm ih
    rw [hm] at hk
    clear hm
    obtain ⟨k0, rfl⟩ : ∃ m, k = m + i + 3 := ⟨k - i - 3, by omega⟩
    rw [sspec_step l hl next i hlt k0 (by omega) (by omega), ih k0 (i + 1) (by omega) (by omega) (by omega), objsB_step l next i hlt]
    cases objB l next i <;> simp
theorem simpl_loop (l : List S71) (hl : l.length ≤ 300) (S : Nat) (hS : S ≤ 140737488351232) (hs : ∀ x ∈ l, x.f0.size ≤ S) (next : Int) (d : Nat) : ∀ (k i : Nat), i ≤ l.length → l.length - i = d → d + S + 5 < k →
    impl_StoreOK.l0 k l (l.length : Int) (i : Int) l next (mets l i) = some (objsB l next i) := by
  induction d with
  | zero =>
    intro k i hi hd hk
    obtain ⟨k, rfl⟩ : ∃ m, k = m + 1 := ⟨k - 1, by omega⟩
    obtain rfl : i = l.length := by omega
    simp only [impl_StoreOK.l0]
    rw [if_neg (by omega), objsB_end]
  | succ d ih =>
    intro k i hi hd hk
    have hlt : i < l.length := by omega
    have hx := hs l[i] (List.getElem_mem hlt)
    obtain ⟨k, rfl⟩ : ∃ m, k = m + 1 := ⟨k - 1, by omega⟩
    rw [simpl_step l hl next i hlt k (by omega) (by omega), ih k (i + 1) (by omega) (by omega) (by omega), objsB_step l next i hlt]
    cases objB l next i <;> simp
/-- a right store: both tell the same -/
theorem store_same (l : List S71) (hl : l.length ≤ 1048576) (S : Nat) (hS : S ≤ 140737488351232) (hs : ∀ x ∈ l, x.f0.size ≤ S) (next : Int) (k : Nat) (hk : l.length * (l.length + 5) + S + 320 < k) :
    spec_StoreOK.f k l next = some (storeB l next) ∧ impl_StoreOK.f k l next = some (storeB l next) := by
  have h1 := sspec_loop l hl S hS hs next l.length k 0 (by omega) (by omega) (by omega)
  refine ⟨h1, ?_⟩
  unfold impl_StoreOK.f storeB
  obtain ⟨k, rfl⟩ : ∃ m, k = m + 1 := ⟨k - 1, by omega⟩
  simp only [within_eq, Option.bind_some, impl_StoreOK.j0]
  cases (decide (1 ≤ next) && decide (next ≤ 1000000000)) with
  | false => simp
  | true =>
    simp only [if_true, Bool.and_true]
    by_cases h : (l.length : Int) > 300
    · rw [if_pos (decide_eq_true h), decide_eq_false (show ¬ (l.length : Int) ≤ 300 by omega)]
      simp
    · have h2 := simpl_loop l (by omega) S hS hs next l.length k 0 (by omega) (by omega) (by omega)
      rw [if_neg (by simpa using h), decide_eq_true (show (l.length : Int) ≤ 300 by omega), Bool.and_true]
      exact h2
theorem bl_irr : ∀ x : List UInt8, Op.bytesLess x x = false
  | [] => rfl
  | a :: x => by
    have ih := bl_irr x
    unfold Op.bytesLess
    rw [ih]
    simp
theorem bl_trans : ∀ x y z : List UInt8, Op.bytesLess x y = true → Op.bytesLess y z = true → Op.bytesLess x z = true
  | x, [], z, h, _ => by cases x <;> simp [Op.bytesLess] at h
  | x, b :: y, [], _, h => by simp [Op.bytesLess] at h
  | [], b :: y, c :: z, _, _ => rfl
  | a :: x, b :: y, c :: z, h1, h2 => by
    have ih := bl_trans x y z
    unfold Op.bytesLess at h1 h2 ⊢
    simp only [Bool.or_eq_true, decide_eq_true_eq, Bool.and_eq_true, beq_iff_eq] at h1 h2 ⊢
    rcases h1 with h1 | ⟨rfl, h1⟩
    · rcases h2 with h2 | ⟨rfl, h2⟩
      · exact .inl (UInt8.lt_trans h1 h2)
      · exact .inl h1
    · rcases h2 with h2 | ⟨rfl, h2⟩
      · exact .inl h2
      · exact .inr ⟨rfl, ih h1 h2⟩
theorem bl_total : ∀ x y : List UInt8, x = y ∨ Op.bytesLess x y = true ∨ Op.bytesLess y x = true
  | [], [] => .inl rfl
  | [], _ :: _ => .inr (.inl rfl)
  | _ :: _, [] => .inr (.inr rfl)
  | a :: x, b :: y => by
    have ih := bl_total x y
    unfold Op.bytesLess
    simp only [Bool.or_eq_true, decide_eq_true_eq, Bool.and_eq_true, beq_iff_eq]
    rcases Nat.lt_trichotomy a.toNat b.toNat with h | h | h
    · exact .inr (.inl (.inl (UInt8.lt_iff_toNat_lt.2 h)))
    · have e : a = b := UInt8.toNat_inj.1 h
      subst e
      rcases ih with rfl | h | h
      · exact .inl rfl
      · exact .inr (.inl (.inr ⟨rfl, h⟩))
      · exact .inr (.inr (.inr ⟨rfl, h⟩))
    · exact .inr (.inr (.inl (UInt8.lt_iff_toNat_lt.2 h)))
/-- the order of texts: Compare's sign, and whether they are one -/
theorem cmp_lt : ∀ x y : List UInt8, decide (Lib.compareBytes x y < 0) = Op.bytesLess x y
  | [], [] => rfl
  | [], _ :: _ => rfl
  | _ :: _, [] => rfl
  | a :: x, b :: y => by
    have ih := cmp_lt x y
    unfold Lib.compareBytes Op.bytesLess
    by_cases h : a < b
    · simp [h]
    · by_cases h2 : b < a
      · have hne : ¬ a = b := fun e => by subst e; exact h h2
        simp [h, h2, hne]
      · have e : a = b := UInt8.le_antisymm (UInt8.not_lt.1 h2) (UInt8.not_lt.1 h)
        subst e
        rw [if_neg h, if_neg h, ih]
        simp
theorem cmp_eq : ∀ x y : List UInt8, Lib.compareBytes x y = 0 ↔ x = y
  | [], [] => by simp [Lib.compareBytes]
  | [], _ :: _ => by simp [Lib.compareBytes]
  | _ :: _, [] => by simp [Lib.compareBytes]
  | a :: x, b :: y => by
    have ih := cmp_eq x y
    unfold Lib.compareBytes
    by_cases h : a < b
    · have hne : ¬ a = b := fun e => by subst e; exact UInt8.lt_irrefl _ h
      simp [h, hne]
    · by_cases h2 : b < a
      · have hne : ¬ a = b := fun e => by subst e; exact h h2
        simp [h, h2, hne]
      · have e : a = b := UInt8.le_antisymm (UInt8.not_lt.1 h2) (UInt8.not_lt.1 h)
        subst e
        rw [if_neg h, if_neg h, ih]
        simp
/-- keys rise -/
theorem ord_all (l : List S71) (next : Int) (h : objsB l next 0 = true) (i : Nat) (hi : i < l.length) : objB l next i = true := by
  unfold objsB at h
  rw [List.drop_zero, List.all_eq_true] at h
  exact h i (List.mem_range.2 hi)
theorem key_next (l : List S71) (next : Int) (h : objsB l next 0 = true) (i : Nat) (hi : i + 1 < l.length) : Op.bytesLess (l.getD i z71).f0.toList (l.getD (i + 1) z71).f0.toList = true := by
  have := ord_all l next h (i + 1) hi
  unfold objB ordB at this
  simp only [Bool.and_eq_true, Bool.or_eq_true, decide_eq_true_eq] at this
  rcases this.2.2.2.1 with e | e
  · omega
  · simpa using e
theorem key_rise (l : List S71) (next : Int) (h : objsB l next 0 = true) (i d : Nat) (hj : i + d + 1 < l.length) : Op.bytesLess (l.getD i z71).f0.toList (l.getD (i + d + 1) z71).f0.toList = true := by
  induction d with
  | zero => exact key_next l next h i hj
  | succ d ih => exact bl_trans _ _ _ (ih (by omega)) (key_next l next h (i + d + 1) hj)
theorem key_lt (l : List S71) (next : Int) (h : objsB l next 0 = true) {i j : Nat} (hij : i < j) (hj : j < l.length) : Op.bytesLess (l.getD i z71).f0.toList (l.getD j z71).f0.toList = true := by
  obtain ⟨d, rfl⟩ : ∃ d, j = i + d + 1 := ⟨j - i - 1, by omega⟩
  exact key_rise l next h i d hj
theorem lowK_eq (l : List S71) (key : ByteArray) (i : Nat) : lowK l key i = Op.bytesLess (l.getD i z71).f0.toList key.toList := by
  unfold lowK cmpK
  rw [ByteArray.toList_eq, ByteArray.toList_eq]
  exact cmp_lt _ _
theorem monoK_of (l : List S71) (next : Int) (h : objsB l next 0 = true) (key : ByteArray) : monoK l key = true := by
  unfold monoK
  rw [List.all_eq_true]
  intro b hb
  have hb := List.mem_range.1 hb
  cases hq : lowK l key b with
  | false => rfl
  | true =>
    rw [Bool.not_true, Bool.false_or, List.all_eq_true]
    intro a ha
    have ha := List.mem_range.1 ha
    rw [lowK_eq] at hq ⊢
    exact bl_trans _ _ _ (key_lt l next h ha hb) hq
def findZ : List S71 → ByteArray → Nat → Int
  | [], _, _ => -1
  | x :: r, key, i => if x.f0.toList = key.toList then (i : Int) else findZ r key (i + 1)
theorem findZ_cons (x : S71) (r : List S71) (key : ByteArray) (i : Nat) : findZ (x :: r) key i = if x.f0.toList = key.toList then (i : Int) else findZ r key (i + 1) := rfl
theorem findZ_loop (l : List S71) (hl : l.length ≤ 1048576) (next : Int) (key : ByteArray) (d : Nat) : ∀ (k i : Nat), i ≤ l.length → l.length - i = d → d < k → spec_l01Find.l0 k key (i : Int) l next = some (findZ (l.drop i) key i) := by
  induction d with
  | zero =>
    intro k i hi hd hk
    obtain ⟨k, rfl⟩ : ∃ m, k = m + 1 := ⟨k - 1, by omega⟩
    obtain rfl : i = l.length := by omega
    simp only [spec_l01Find.l0]
    rw [if_neg (by omega), List.drop_length]
    rfl
  | succ d ih =>
    intro k i hi hd hk
    obtain ⟨k, rfl⟩ : ∃ m, k = m + 1 := ⟨k - 1, by omega⟩
    have hlt : i < l.length := by omega
    have hw : wrap64 ((i : Int) + 1) = ((i + 1 : Nat) : Int) := by unfold wrap64; omega
    simp only [spec_l01Find.l0]
    rw [if_pos (by omega), if_pos (by omega), rd71_at l i hlt, hw, ih k (i + 1) (by omega) (by omega) (by omega), List.drop_eq_getElem_cons hlt, findZ_cons]
    split <;> rfl
theorem findZ_spec (key : ByteArray) : ∀ (l : List S71) (i : Nat), (findZ l key i = -1 ∧ ∀ t, t < l.length → (l.getD t z71).f0.toList ≠ key.toList) ∨ ∃ t, t < l.length ∧ findZ l key i = ((i + t : Nat) : Int) ∧ (l.getD t z71).f0.toList = key.toList
  | [], i => .inl ⟨rfl, fun t ht => absurd ht (Nat.not_lt_zero _)⟩
  | x :: r, i => by
    rw [findZ_cons]
    by_cases h : x.f0.toList = key.toList
    · exact .inr ⟨0, by simp, by rw [if_pos h]; rfl, by simpa using h⟩
    · rw [if_neg h]
      rcases findZ_spec key r (i + 1) with ⟨e, ha⟩ | ⟨t, ht, e, hk⟩
      · refine .inl ⟨e, fun t ht => ?_⟩
        cases t with
        | zero => simpa using h
        | succ t => simpa using ha t (by simpa using ht)
      · exact .inr ⟨t + 1, by simpa using ht, by rw [e]; congr 1; omega, by simpa using hk⟩
/-- where a key stands: both searches tell the same -/
theorem find_both (l : List S71) (next : Int) (h : objsB l next 0 = true) (key : ByteArray) :
    (hasK l key = true ∧ findZ l key 0 = (cntK l key : Nat) ∧ cntK l key < l.length ∧ (l.getD (cntK l key) z71).f0.toList = key.toList) ∨ (hasK l key = false ∧ findZ l key 0 = -1) := by
  have hc0 : ∀ t, decide (cmpK key (l.getD t z71) < 0) = lowK l key t := fun t => rfl
  rcases findZ_spec key l 0 with ⟨e, ha⟩ | ⟨t, ht, e, hk⟩
  · refine .inr ⟨?_, e⟩
    unfold hasK
    by_cases hlt : cntK l key < l.length
    · rw [decide_eq_true hlt, Bool.true_and]
      refine decide_eq_false fun hz => ?_
      unfold cmpK at hz
      exact ha _ hlt (by rw [ByteArray.toList_eq, ByteArray.toList_eq]; exact (cmp_eq _ _).1 hz)
    · rw [decide_eq_false hlt, Bool.false_and]
  · have hcnt : cntK l key = t := countP_cut _ z71 l t (Nat.le_of_lt ht) (fun s hs => by
        rw [hc0, lowK_eq, ← hk]
        exact key_lt l next h hs ht) (fun s h1 h2 => by
        rw [hc0, lowK_eq, ← hk]
        rcases Nat.eq_or_lt_of_le h1 with rfl | h3
        · exact bl_irr _
        · have := key_lt l next h h3 h2
          cases hq : Op.bytesLess (l.getD s z71).f0.toList (l.getD t z71).f0.toList with
          | false => rfl
          | true =>
            have hz := bl_trans _ _ _ this hq
            rw [bl_irr] at hz
            cases hz)
    refine .inl ?_
    rw [hcnt]
    refine ⟨?_, by rw [e, Nat.zero_add], ht, hk⟩
    unfold hasK
    rw [hcnt, decide_eq_true ht, Bool.true_and]
    refine decide_eq_true ?_
    unfold cmpK
    rw [ByteArray.toList_eq, ByteArray.toList_eq] at hk
    exact (cmp_eq _ _).2 hk
theorem sfind_eq (l : List S71) (hl : l.length ≤ 1048576) (next : Int) (key : ByteArray) (k : Nat) (hk : l.length < k) : spec_l01Find.f k l next key = some (findZ l key 0) := by
  have := findZ_loop l hl next key l.length k 0 (by omega) (by omega) hk
  exact this
theorem ifind_eq (l : List S71) (hl : l.length ≤ 1048576) (next : Int) (h : objsB l next 0 = true) (key : ByteArray) : impl_Store_find.f l next key = some (((cntK l key : Nat) : Int), hasK l key) := by
  unfold impl_Store_find.f
  rw [if_pos ⟨by omega, monoK_of l next h key⟩]
theorem storeB_objs {l : List S71} {next : Int} (h : storeB l next = true) : objsB l next 0 = true := by
  unfold storeB at h
  exact (Bool.and_eq_true _ _ ▸ h : _ ∧ _).1
theorem storeB_len {l : List S71} {next : Int} (h : storeB l next = true) : l.length ≤ 300 ∧ 1 ≤ next ∧ next ≤ 1000000000 := by
  unfold storeB at h
  simp only [Bool.and_eq_true, decide_eq_true_eq] at h
  omega
theorem obj_ver {l : List S71} {next : Int} (h : objsB l next 0 = true) {i : Nat} (hi : i < l.length) : 1 ≤ (l.getD i z71).f1 := by
  have := ord_all l next h i hi
  unfold objB at this
  simp only [Bool.and_eq_true, decide_eq_true_eq] at this
  exact this.2.1.1
theorem rd148_cnt (l : List S71) (i : Nat) : rd_T71 l (i : Int) = l.getD i z71 := by unfold rd_T71; rw [Int.toNat_natCast]
theorem cut_ex (p : Nat → Bool) : ∀ n : Nat, ∃ t, t ≤ n ∧ (∀ s, s < t → p s = true) ∧ (t = n ∨ p t = false)
  | 0 => ⟨0, Nat.le_refl 0, fun s hs => absurd hs (Nat.not_lt_zero s), .inl rfl⟩
  | n + 1 => by
    obtain ⟨t, h1, h2, h3⟩ := cut_ex p n
    rcases h3 with rfl | h3
    · cases hp : p t with
      | true => exact ⟨t + 1, Nat.le_refl _, fun s hs => by rcases Nat.lt_or_ge s t with h | h; exact h2 s h; (obtain rfl : s = t := by omega); exact hp, .inl rfl⟩
      | false => exact ⟨t, Nat.le_succ t, h2, .inr hp⟩
    · exact ⟨t, Nat.le_succ_of_le h1, h2, .inr h3⟩
/-- the keys ahead of a key's place are less, the others are not -/
theorem cnt_cut (l : List S71) (next : Int) (h : objsB l next 0 = true) (key : ByteArray) :
    cntK l key ≤ l.length ∧ (∀ s, s < cntK l key → Op.bytesLess (l.getD s z71).f0.toList key.toList = true) ∧ (∀ s, cntK l key ≤ s → s < l.length → Op.bytesLess (l.getD s z71).f0.toList key.toList = false) := by
  obtain ⟨t, h1, h2, h3⟩ := cut_ex (fun i => lowK l key i) l.length
  have h4 : ∀ s, t ≤ s → s < l.length → lowK l key s = false := fun s hs hsl => by
    rcases h3 with rfl | h3
    · omega
    · cases hq : lowK l key s with
      | false => rfl
      | true =>
        have := monoK_at (monoK_of l next h key) hs hsl hq
        rw [h3] at this
        cases this
  have hc : cntK l key = t := countP_cut _ z71 l t h1 h2 h4
  rw [hc]
  exact ⟨h1, fun s hs => by rw [← lowK_eq]; exact h2 s hs, fun s a b => by rw [← lowK_eq]; exact h4 s a b⟩
/-- where a key stands, and where it does not -/
theorem find_put (l : List S71) (next : Int) (h : objsB l next 0 = true) (key : ByteArray) :
    (hasK l key = true ∧ findZ l key 0 = (cntK l key : Nat) ∧ cntK l key < l.length ∧ (l.getD (cntK l key) z71).f0.toList = key.toList) ∨ (hasK l key = false ∧ findZ l key 0 = -1 ∧ (cntK l key < l.length → (l.getD (cntK l key) z71).f0.toList ≠ key.toList)) := by
  rcases find_both l next h key with a | ⟨a1, a2⟩
  · exact .inl a
  · refine .inr ⟨a1, a2, fun hlt e => ?_⟩
    rcases findZ_spec key l 0 with ⟨_, ha⟩ | ⟨t, _, e2, _⟩
    · exact ha _ hlt e
    · rw [a2] at e2
      omega
/-- an object in its place -/
def setR (l : List S71) (next : Int) (key data : ByteArray) : List S71 := if hasK l key = true then l.set (cntK l key) ⟨key, next, data⟩ else l.take (cntK l key) ++ ⟨key, next, data⟩ :: l.drop (cntK l key)
theorem setR_len (l : List S71) (hl : l.length ≤ 1048576) (next : Int) (h : objsB l next 0 = true) (key data : ByteArray) : (setR l next key data).length ≤ l.length + 1 := by
  have := (cnt_cut l next h key).1
  unfold setR
  split
  · simp
  · simp
    omega
theorem set_loop (l : List S71) (hl : l.length ≤ 1048576) (next : Int) (h : objsB l next 0 = true) (hn : 1 ≤ next ∧ next ≤ 1000000000) (key data : ByteArray) (d : Nat) : ∀ (k i : Nat), i ≤ cntK l key → cntK l key - i = d → d < k → spec_l01Set.l0 k key data (i : Int) l next = some (setR l next key data, wrap64 (next + 1)) := by
  obtain ⟨hcl, hlow, hhigh⟩ := cnt_cut l next h key
  induction d with
  | zero =>
    intro k i hi hd hk
    obtain ⟨k, rfl⟩ : ∃ m, k = m + 1 := ⟨k - 1, by omega⟩
    obtain rfl : i = cntK l key := by omega
    have hput := find_put l next h key
    have p0 : (0 : Int) ≤ ((cntK l key : Nat) : Int) := by omega
    have p1 : ((cntK l key : Nat) : Int) ≤ (l.length : Int) := by omega
    have hw : wrap64 (((cntK l key : Nat) : Int) + 1) = ((cntK l key + 1 : Nat) : Int) := by unfold wrap64; omega
    have ll : ((cntK l key : Nat) : Int).toNat = cntK l key := Int.toNat_natCast _
    have ll1 : ((cntK l key + 1 : Nat) : Int).toNat = cntK l key + 1 := Int.toNat_natCast _
    have q1 : ([] : List S71).length + (l.take (cntK l key)).length < 3518437208883 := by simp; omega
    have q2 : (([] : List S71) ++ l.take (cntK l key)).length + [(⟨key, next, data⟩ : S71)].length < 3518437208883 := by simp; omega
    have q3 : ((([] : List S71) ++ l.take (cntK l key)) ++ [(⟨key, next, data⟩ : S71)]).length + (l.drop (cntK l key)).length < 3518437208883 := by simp; omega
    have q4 : ((([] : List S71) ++ l.take (cntK l key)) ++ [(⟨key, next, data⟩ : S71)]).length + (l.drop (cntK l key + 1)).length < 3518437208883 := by simp; omega
    simp only [spec_l01Set.l0, if_pos p0, if_pos p1, Option.bind_some, ll, hw, ll1]
    by_cases hlt : cntK l key < l.length
    · have hltz : ((cntK l key : Nat) : Int) < (l.length : Int) := by omega
      have p2 : (0 : Int) ≤ ((cntK l key + 1 : Nat) : Int) := by omega
      have p3 : ((cntK l key + 1 : Nat) : Int) ≤ (l.length : Int) := by omega
      rw [if_pos hltz, rd148_cnt, hhigh _ (Nat.le_refl _) hlt, if_neg (by decide)]
      rcases hput with ⟨a1, _, _, a4⟩ | ⟨a1, _, a3⟩
      · rw [if_pos a4, if_pos p2, if_pos p3, if_pos q1, if_pos q2, if_pos q4]
        unfold setR
        rw [if_pos a1, List.set_eq_take_append_cons_drop, if_pos hlt]
        simp
      · rw [if_neg (a3 hlt), if_pos q1, if_pos q2, if_pos q3]
        unfold setR
        rw [if_neg (by rw [a1]; decide)]
        simp
    · have hltz : ¬ ((cntK l key : Nat) : Int) < (l.length : Int) := by omega
      have a1 : hasK l key = false := by
        rcases hput with ⟨_, _, a3, _⟩ | ⟨a1, _⟩
        · exact absurd a3 hlt
        · exact a1
      rw [if_neg hltz, if_pos q1, if_pos q2, if_pos q3]
      unfold setR
      rw [if_neg (by rw [a1]; decide)]
      simp
  | succ d ih =>
    intro k i hi hd hk
    obtain ⟨k, rfl⟩ : ∃ m, k = m + 1 := ⟨k - 1, by omega⟩
    have hlt : i < l.length := by omega
    have hw : wrap64 ((i : Int) + 1) = ((i + 1 : Nat) : Int) := by unfold wrap64; omega
    simp only [spec_l01Set.l0]
    rw [if_pos (by omega), if_pos (by omega), rd148_cnt, if_pos (hlow i (by omega)), hw]
    exact ih k (i + 1) (by omega) (by omega) (by omega)
theorem sset_eq (l : List S71) (hl : l.length ≤ 1048576) (next : Int) (h : objsB l next 0 = true) (hn : 1 ≤ next ∧ next ≤ 1000000000) (key data : ByteArray) (k : Nat) (hk : l.length < k) : spec_l01Set.f k l next key data = some (setR l next key data, wrap64 (next + 1)) := by
  have := (cnt_cut l next h key).1
  exact set_loop l hl next h hn key data (cntK l key) k 0 (by omega) (by omega) (by omega)
/-- what room there is -/
def roomC (l : List S71) (next : Int) (key data : ByteArray) : Int := if (data.size : Int) > 600 then 8 else if (hasK l key = false ∧ (l.length : Int) = 300) ∨ next = 1000000000 then 7 else 0
theorem sroom_eq (l : List S71) (hl : l.length ≤ 1048576) (next : Int) (h : objsB l next 0 = true) (key data : ByteArray) (k : Nat) (hk : l.length < k) : spec_l01Room.f k l next key data = some (roomC l next key data) := by
  unfold spec_l01Room.f roomC
  rw [sfind_eq l hl next key k hk]
  by_cases c : (data.size : Int) > 600
  · rw [if_pos c, if_pos c]
  · rw [if_neg c, if_neg c, Option.bind_some]
    rcases find_put l next h key with ⟨a1, a2, _⟩ | ⟨a1, a2, _⟩
    · rw [a2, a1, if_neg (by omega)]
      by_cases e : next = 1000000000 <;> simp [e]
    · rw [a2, a1, if_pos (by omega)]
      by_cases e : next = 1000000000 <;> by_cases e2 : (l.length : Int) = 300 <;> simp [e, e2]
theorem iput_eq (l : List S71) (hl : l.length ≤ 300) (next : Int) (h : objsB l next 0 = true) (hn : 1 ≤ next ∧ next ≤ 1000000000) (key data : ByteArray) (k : Nat) (hk : 5 < k) :
    impl_Store_put.f k l next key data = some (if roomC l next key data = 0 then (setR l next key data, wrap64 (next + 1), next, 0) else (l, next, 0, roomC l next key data)) := by
  have f2 : ∀ b1 b2 c1 c2, impl_first.f k [anyB b1, anyI c1, anyB b2, anyI c2] = some (if b1 = true then c1 else if b2 = true then c2 else 0) := by
    obtain ⟨m, rfl⟩ : ∃ m, k = m + 3 := ⟨k - 3, by omega⟩
    exact first2 m
  have hcl := (cnt_cut l next h key).1
  have key_ : ∀ t, impl_Store_put.j0 k key data ((cntK l key : Nat) : Int) (hasK l key) t l next = some (if t = 0 then (setR l next key data, wrap64 (next + 1), next, 0) else (l, next, 0, t)) := by
    intro t
    obtain ⟨m, rfl⟩ : ∃ m, k = m + 1 := ⟨k - 1, by omega⟩
    simp only [impl_Store_put.j0]
    by_cases ht : t = 0
    · have q0 : ([] : List S71).length + l.length < 3518437208883 := by simp; omega
      have hcop : impl_Store_copied.f l next = some (l, next) := by
        first | unfold impl_Store_copied.f impl_Object.f | unfold impl_Store_copied.f impl_Object_59.f
        simp only [Option.bind_some, if_pos q0, List.nil_append]
      rw [if_pos ht, if_pos ht, hcop, Option.bind_some]
      cases hh : hasK l key with
      | true =>
        have hlt : cntK l key < l.length := by
          unfold hasK at hh
          simp only [Bool.and_eq_true, decide_eq_true_eq] at hh
          exact hh.1
        simp only [if_true]
        rw [if_pos (by omega), if_pos (by omega), Int.toNat_natCast]
        unfold setR
        rw [if_pos hh]
      | false =>
        simp only [Bool.false_eq_true, if_false]
        rw [if_pos ⟨by omega, by omega, by omega⟩, Int.toNat_natCast]
        unfold setR
        rw [if_neg (by rw [hh]; decide)]
    · rw [if_neg ht, if_neg ht]
  unfold impl_Store_put.f
  rw [ifind_eq l (by omega) next h key]
  simp only [Option.bind_some, f2, key_]
  unfold roomC
  by_cases c : (data.size : Int) > 600
  · cases hh : hasK l key <;> by_cases e2 : (l.length : Int) = 300 <;> simp [c, e2]
  · cases hh : hasK l key <;> by_cases e2 : (l.length : Int) = 300 <;> by_cases e : next = 1000000000 <;> simp [c, e2, e]
theorem sown_eq (l : List S71) (hl : l.length ≤ 2000000) (next : Int) : spec_l01Own.f l next = some (l, next) := by
  have q0 : ([] : List S71).length + l.length < 3518437208883 := by simp; omega
  unfold spec_l01Own.f
  simp only [Option.bind_some, if_pos q0, List.nil_append]
theorem icop_eq (l : List S71) (hl : l.length ≤ 2000000) (next : Int) : impl_Store_copied.f l next = some (l, next) := by
  have q0 : ([] : List S71).length + l.length < 3518437208883 := by simp; omega
  first | unfold impl_Store_copied.f impl_Object.f | unfold impl_Store_copied.f impl_Object_59.f
  simp only [Option.bind_some, if_pos q0, List.nil_append]
theorem first1 (k : Nat) (b : Bool) (c : Int) : impl_first.f (k + 2) [anyB b, anyI c] = some (if b = true then c else 0) := by
  have w1 : wrap64 1 = 1 := by unfold wrap64; omega
  have w2 : wrap64 2 = 2 := by unfold wrap64; omega
  have w3 : wrap64 3 = 3 := by unfold wrap64; omega
  cases b <;> simp [impl_first.f, impl_first.l0, w1, w2, w3, rdOf, anyAsB, anyAsI]
def putVR (l : List S71) (next : Int) (key : ByteArray) (ver : Int) (data : ByteArray) : List S71 × Int × Int × Int :=
  if (key.size : Int) > 65536 ∨ (data.size : Int) > 65536 then ([], 0, 0, 2) else if storeB l next = true then (if kOK key = true then (if hasK l key = true then (if (l.getD (cntK l key) z71).f1 = ver then (if roomC l next key data = 0 then (setR l next key data, wrap64 (next + 1), next, 0) else (l, next, 0, roomC l next key data)) else (l, next, 0, 10)) else (l, next, 0, 5)) else ([], 0, 0, 19)) else ([], 0, 0, 1)
theorem putV_same (l : List S71) (hl : l.length ≤ 1048576) (hs : ∀ x ∈ l, x.f0.size ≤ 140737488351232) (next : Int) (key : ByteArray) (ver : Int) (data : ByteArray) (hkey : key.size ≤ 140737488351232) (k : Nat) (hk : l.length * (l.length + 5) + 140737488351232 + 320 < k) :
    spec_PutVersion.f k l next key ver data = some (putVR l next key ver data) ∧ impl_PutVersion.f k l next key ver data = some (putVR l next key ver data) := by
  obtain ⟨h1, h2⟩ := store_same l hl 140737488351232 (by omega) hs next k hk
  obtain ⟨g1, g2⟩ := keyOK_eq key hkey k (by omega)
  have f2 : ∀ b1 b2 c1 c2, impl_first.f k [anyB b1, anyI c1, anyB b2, anyI c2] = some (if b1 = true then c1 else if b2 = true then c2 else 0) := by
    obtain ⟨m, rfl⟩ : ∃ m, k = m + 3 := ⟨k - 3, by omega⟩
    exact first2 m
  have f1 : ∀ b c, impl_first.f k [anyB b, anyI c] = some (if b = true then c else 0) := by
    obtain ⟨m, rfl⟩ : ∃ m, k = m + 2 := ⟨k - 2, by omega⟩
    exact first1 m
  have hlk : l.length < k := by
    have : l.length * 1 ≤ l.length * (l.length + 5) := Nat.mul_le_mul_left _ (by omega)
    omega
  unfold spec_PutVersion.f impl_PutVersion.f spec_l01Ask.f impl_storeCode.f impl_isLong.f shortB putVR
  simp only [h1, h2, g1, g2, f2, Option.bind_some, List.any_cons, List.any_nil, Bool.or_false]
  by_cases hb : (key.size : Int) > 65536
  · have e : (!(decide ((key.size : Int) ≤ 65536))) = true := by rw [decide_eq_false (by omega)]; rfl
    rw [e, if_pos hb, if_pos (Or.inl hb)]
    exact ⟨rfl, by simp⟩
  · have e : (!(decide ((key.size : Int) ≤ 65536))) = false := by rw [decide_eq_true (by omega)]; rfl
    by_cases hd : (data.size : Int) > 65536
    · have e2 : (!(decide ((data.size : Int) ≤ 65536))) = true := by rw [decide_eq_false (by omega)]; rfl
      rw [e, e2, if_neg hb, if_pos hd, if_pos (Or.inr hd)]
      exact ⟨rfl, by simp⟩
    · have e2 : (!(decide ((data.size : Int) ≤ 65536))) = false := by rw [decide_eq_true (by omega)]; rfl
      rw [e, e2, if_neg hb, if_neg hd, if_neg (by omega)]
      have hb' : ¬ 65536 < (key.size : Int) := by omega
      have hd' : (data.size : Int) ≤ 65536 := by omega
      cases hst : storeB l next with
      | false => exact ⟨by simp [hb', hd'], by simp [hb', hd']⟩
      | true =>
        cases hko : kOK key with
        | false => exact ⟨by simp [hb', hd'], by simp [hb', hd']⟩
        | true =>
          have ho := storeB_objs hst
          obtain ⟨hn3, hn1, hn2⟩ := storeB_len hst
          have hsl := setR_len l hl next ho key data
          have hso := sown_eq (setR l next key data) (by omega) (wrap64 (next + 1))
          have hsc := icop_eq (setR l next key data) (by omega) (wrap64 (next + 1))
          have hlo := sown_eq l (by omega) next
          have hlc := icop_eq l (by omega) next
          have hput := iput_eq l hn3 next ho ⟨hn1, hn2⟩ key data k (by omega)
          have hroom := sroom_eq l hl next ho key data k hlk
          have hset := sset_eq l hl next ho ⟨hn1, hn2⟩ key data k hlk
          unfold spec_l01Over.f spec_l01Get.f impl_Store_versionCode.f
          rw [sfind_eq l hl next key k hlk, ifind_eq l hl next ho key, hput, hroom, hset]
          rcases find_put l next ho key with ⟨a1, a2, a3, a4⟩ | ⟨a1, a2, _⟩
          · have hr := rd148_cnt l (cntK l key)
            have hv1 := obj_ver ho a3
            rw [a1, a2]
            generalize l.getD (cntK l key) z71 = y at hr hv1 a4
            have n1 : ¬ (((cntK l key : Nat) : Int) < 0) := by omega
            have n2 : ((cntK l key : Nat) : Int) < (l.length : Int) := by omega
            have n0 : (0 : Int) ≤ ((cntK l key : Nat) : Int) := by omega
            have hv0 : ¬ y.f1 = 0 := by omega
            simp only [Option.bind_some, if_neg n1, if_pos n0, if_pos n2, hr, if_neg hv0, f1, if_true]
            by_cases hv : y.f1 = ver
            · by_cases hc : roomC l next key data = 0
              · exact ⟨by simp [hb', hd', hv, hc, hso], by simp [hb', hd', hv, hc, hsc]⟩
              · exact ⟨by simp [hb', hd', hv, hc, hlo] <;> (intro h_; omega), by simp [hb', hd', hv, hc, hlc] <;> (intro h_; omega)⟩
            · exact ⟨by simp [hb', hd', hv, hlo], by simp [hb', hd', hv, hlc]⟩
          · rw [a1, a2]
            exact ⟨by simp [hb', hd', hlo], by simp [hb', hd', hlc]⟩
theorem putVR_len (l : List S71) (hl : l.length ≤ 1048576) (next : Int) (key : ByteArray) (ver : Int) (data : ByteArray) : (putVR l next key ver data).1.length ≤ 301 := by
  unfold putVR
  cases hst : storeB l next with
  | false =>
    split <;> simp
  | true =>
    have h1 := setR_len l hl next (storeB_objs hst) key data
    have h2 := (storeB_len hst).1
    have h3 : (setR l next key data).length ≤ 301 := by omega
    have h4 : l.length ≤ 301 := by omega
    repeat' split
    all_goals first | exact h3 | exact h4 | (simp; done)
theorem FnExactPutVersion : laws_FnExactPutVersion.Pure := by
  intro l next key ver data ⟨_, hl, sl⟩ _ hkey _ _
  obtain ⟨D, hD⟩ : ∃ D, D = l.length * (l.length + 5) := ⟨_, rfl⟩
  obtain ⟨k, hk⟩ : ∃ k : Nat, k = D + 140737490000000 := ⟨_, rfl⟩
  refine ⟨k + 3, ?_⟩
  obtain ⟨r1, s1, b1⟩ := szObjectS_tot l (fun x hx => ⟨(sl x hx).1, (sl x hx).2.2⟩) 1048576 (by omega) (by omega) (by omega) (k + 3) (by omega)
  unfold laws_FnExactPutVersion.f laws_szStore.f
  rw [s1]
  simp only [Option.bind_some]
  by_cases cb : (key.size : Int) > 1048576
  · rw [if_pos cb]
  rw [if_neg cb]
  by_cases cc : (data.size : Int) > 1048576
  · rw [if_pos cc]
  rw [if_neg cc]
  by_cases ca : r1 < 0
  · simp [ca]
  have b1 := b1 (by omega)
  have la : (l.map cvObject).length = l.length := by simp
  have hs : ∀ x ∈ l.map cvObject, x.f0.size ≤ 140737488351232 := fun x hx => by
    obtain ⟨y, hy, rfl⟩ := List.mem_map.1 hx
    exact (sl y hy).1
  have key_ := fun j hj => putV_same (l.map cvObject) (by omega) hs next key ver data hkey j hj
  have hrl := putVR_len (l.map cvObject) (by omega) next key ver data
  generalize putVR (l.map cvObject) next key ver data = R at key_ hrl
  obtain ⟨rl, q1, q2, qc⟩ := R
  replace hrl : rl.length ≤ 301 := hrl
  rw [la, ← hD] at key_
  have hm0 : ((1 : Int) + 3 * (rl.length : Int) < 0) = False := eq_false (by omega)
  have hk0 : ((1 : Int) + 3 * ((l.map cvObject).length : Int) < 0) = False := eq_false (by omega)
  have hne : (qc != qc) = false := by simp
  simp only [ca, if_false, Option.bind_some, laws_toStore.f, toObjectS_eq l (by omega) (k + 3) (by omega), (key_ (k + 3) (by omega)).1, (key_ (k + 3) (by omega)).2, laws_eqStore.f, eqObjectS_same rl (by omega) (k + 3) (by omega), if_true, hne, Bool.false_eq_true,
    laws_FnExactPutVersion.j0, toObjectS_eq l (by omega) (k + 2) (by omega), eqObjectS_same (l.map cvObject) (by omega) (k + 2) (by omega), laws_markStore.f, markObjectS_eq (l.map cvObject) 1 (k + 2) (by omega) (by omega) (by omega) (by omega), hk0, eqObjectS_same rl (by omega) (k + 2) (by omega),
    laws_FnExactPutVersion.j1, markObjectS_eq rl 1 (k + 1) (by omega) (by omega) (by omega) (by omega), laws_heldStore.f, heldObjectS_eq rl.length 1 (k + 1) (by omega) (by omega) (by omega) (by omega), hm0, toObjectS_eq l (by omega) (k + 1) (by omega), (key_ (k + 1) (by omega)).2, eqObjectS_same rl (by omega) (k + 1) (by omega),
    laws_FnExactPutVersion.j2, heldObjectS_eq rl.length 1 k (by omega) (by omega) (by omega) (by omega)]

end Go.Proofs.Ytbodkbaniebfaaa.Pure
