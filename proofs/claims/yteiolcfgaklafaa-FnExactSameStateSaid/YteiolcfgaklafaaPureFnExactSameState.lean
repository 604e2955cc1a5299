/- The pure law of FnExactSameState: what the printed functions compute answers true for every input of the kinds and sizes that the statement gives. -/
import Derived.Test.YteiolcfgaklafaaKinFnExactSameState
namespace Go.Proofs.Yteiolcfgaklafaa.Pure
open Go.RowKit Go.Proofs.YteiolcfgaklafaaW.PrintWords Go.Proofs.YteiolcfgaklafaaW.PrintLast Go.Proofs.Yteiolcfgaklafaa.XFnExactSameState
set_option linter.unusedSimpArgs false
set_option linter.unusedVariables false

-- BODY
/-- list places, as the printed loops spell them -/
theorem cast_wrap {i n : Nat} (h : i < n) (hn : n ≤ 140737488351232) : wrap64 ((i : Int) + 1) = ((i + 1 : Nat) : Int) := by unfold wrap64; omega
theorem take_set_succ {α : Type} (l : List α) (i : Nat) (v : α) (h : i < l.length) : (l.set i v).take (i + 1) = l.take i ++ [v] := by
  rw [List.take_succ_eq_append_getElem (by simpa using h)]
  simp only [List.take_set, List.getElem_set_self]
  rw [List.set_eq_of_length_le (by simp; omega)]
theorem rd120_at (l : List S120) (i : Nat) (h : i < l.length) : rd_T120 l (i : Int) = l[i] := by
  unfold rd_T120; rw [Int.toNat_natCast, List.getD_eq_getElem?_getD, List.getElem?_eq_getElem h]; rfl
theorem rd149_at (l : List S149) (i : Nat) (h : i < l.length) : rd_T149 l (i : Int) = l[i] := by
  unfold rd_T149; rw [Int.toNat_natCast, List.getD_eq_getElem?_getD, List.getElem?_eq_getElem h]; rfl
def cvEntry (x : S149) : S120 := ⟨x.f0, x.f1, x.f2, x.f3⟩
theorem toEntryS_loop (l : List S149) (hl : l.length ≤ 1048576) (d : Nat) : ∀ (k i : Nat) (x : List S120), x.length = l.length → i ≤ l.length → l.length - i = d → d < k →
    laws_toEntryS.l0 k l x (i : Int) = some (x.take i ++ (l.drop i).map cvEntry) := by
  induction d with
  | zero =>
    intro k i x hx hi hd hk
    obtain ⟨k, rfl⟩ : ∃ m, k = m + 1 := ⟨k - 1, by omega⟩
    obtain rfl : i = l.length := by omega
    simp only [laws_toEntryS.l0]
    rw [if_neg (by omega), List.drop_length, List.map_nil, List.append_nil, ← hx, List.take_length]
  | succ d ih =>
    intro k i x hx hi hd hk
    obtain ⟨k, rfl⟩ : ∃ m, k = m + 1 := ⟨k - 1, by omega⟩
    have hlt : i < l.length := by omega
    simp only [laws_toEntryS.l0, laws_toEntry.f, Option.bind_some]
    rw [if_pos (by omega), if_pos (by omega), if_pos (by omega), rd149_at l i hlt, cast_wrap hlt (by omega), ih k (i + 1) _ (by simpa using hx) (by omega) (by omega) (by omega), Int.toNat_natCast, take_set_succ _ _ _ (by omega),
      List.drop_eq_getElem_cons hlt, List.map_cons, List.append_assoc]
    rfl
theorem toEntryS_eq (l : List S149) (hl : l.length ≤ 1048576) (k : Nat) (hk : l.length < k) : laws_toEntryS.f k l = some (l.map cvEntry) := by
  unfold laws_toEntryS.f
  rw [if_pos (by omega), if_pos (by omega)]
  have := toEntryS_loop l hl l.length k 0 (List.replicate ((l.length : Int)).toNat z120) (by simp) (by omega) (by omega) hk
  refine Eq.trans this ?_
  simp
theorem eqEntry_same (x0 : Int) (x1 : Int) (x2 : Int) (x3 : ByteArray) : laws_eqEntry.f x0 x1 x2 x3 x0 x1 x2 x3 = some true := by simp [laws_eqEntry.f]
theorem eqEntryS_loop (a : List S120) (hl : a.length ≤ 1048576) (d : Nat) : ∀ (k i : Nat), i ≤ a.length → a.length - i = d → d < k → laws_eqEntryS.l0 k a a (i : Int) = some true := by
  induction d with
  | zero =>
    intro k i hi hd hk
    obtain ⟨k, rfl⟩ : ∃ m, k = m + 1 := ⟨k - 1, by omega⟩
    simp only [laws_eqEntryS.l0]
    rw [if_neg (by omega)]
  | succ d ih =>
    intro k i hi hd hk
    obtain ⟨k, rfl⟩ : ∃ m, k = m + 1 := ⟨k - 1, by omega⟩
    have hlt : i < a.length := by omega
    simp only [laws_eqEntryS.l0]
    rw [if_pos (by omega), if_pos (by omega), if_pos (by omega), eqEntry_same, cast_wrap hlt (by omega), ih k (i + 1) (by omega) (by omega) (by omega)]
    simp
theorem eqEntryS_same (a : List S120) (hl : a.length ≤ 1048576) (k : Nat) (hk : a.length < k) : laws_eqEntryS.f k a a = some true := by
  unfold laws_eqEntryS.f
  rw [if_pos rfl]
  exact eqEntryS_loop a hl a.length k 0 (by omega) (by omega) hk
theorem szEntry_tot (x0 : Int) (x1 : Int) (x2 : Int) (x3 : ByteArray) (a : Int) (h0 : 0 ≤ a) (h1 : a ≤ 1048576) (hs0 : x3.size ≤ 140737488351232) : ∃ r, laws_szEntry.f x0 x1 x2 x3 a = some r ∧ (0 ≤ r → r ≤ a ∧ (x3.size : Int) ≤ a) := by
  unfold laws_szEntry.f
  have w0 : wrap64 (a - (x3.size : Int)) = a - (x3.size : Int) := by unfold wrap64; omega
  simp only [w0]
  by_cases c0 : a - (x3.size : Int) < 0
  · rw [if_pos c0]; exact ⟨-1, rfl, fun h => by omega⟩
  rw [if_neg c0]
  exact ⟨_, rfl, fun _ => by omega⟩
theorem szEntryS_loop (l : List S149) (hl : l.length ≤ 1048576) (hs : ∀ x ∈ l, x.f3.size ≤ 140737488351232) (d : Nat) : ∀ (k i : Nat) (a : Int), i ≤ l.length → l.length - i = d → d < k → 0 ≤ a → a ≤ 1048576 → ∃ r, laws_szEntryS.l0 k l a (i : Int) = some r ∧ (0 ≤ r → r ≤ a ∧ ∀ j (h : j < l.length), i ≤ j → ((l[j].f3).size : Int) ≤ a) := by
  induction d with
  | zero =>
    intro k i a hi hd hk h0 h1
    obtain ⟨k, rfl⟩ : ∃ m, k = m + 1 := ⟨k - 1, by omega⟩
    simp only [laws_szEntryS.l0]
    rw [if_neg (by omega)]
    exact ⟨a, rfl, fun _ => ⟨Int.le_refl _, fun j h hj => by omega⟩⟩
  | succ d ih =>
    intro k i a hi hd hk h0 h1
    obtain ⟨k, rfl⟩ : ∃ m, k = m + 1 := ⟨k - 1, by omega⟩
    have hlt : i < l.length := by omega
    have hsi := hs l[i] (List.getElem_mem hlt)
    obtain ⟨r, hr, hb⟩ := szEntry_tot l[i].f0 l[i].f1 l[i].f2 l[i].f3 a h0 h1 hsi
    simp only [laws_szEntryS.l0]
    rw [if_pos (by omega), if_pos (by omega), rd149_at l i hlt, hr]
    simp only [Option.bind_some]
    by_cases hn : r < 0
    · rw [if_pos hn]; exact ⟨-1, rfl, fun h => by omega⟩
    · rw [if_neg hn, cast_wrap hlt (by omega)]
      have hb' := hb (by omega)
      obtain ⟨q, hq, hqb⟩ := ih k (i + 1) r (by omega) (by omega) (by omega) (by omega) (by omega)
      refine ⟨q, hq, fun h => ⟨by have := hqb h; omega, fun j hj hij => ?_⟩⟩
      have hqb' := hqb h
      by_cases e : j = i
      · subst e; omega
      · have := hqb'.2 j hj (by omega)
        omega
theorem szEntryS_tot (l : List S149) (hs : ∀ x ∈ l, x.f3.size ≤ 140737488351232) (a : Int) (h0 : 0 ≤ a) (h1 : a ≤ 1048576) (hl : l.length ≤ 140737488351232) (k : Nat) (hk : 1048577 < k) : ∃ r, laws_szEntryS.f k l a = some r ∧ (0 ≤ r → r ≤ a ∧ (l.length : Int) ≤ a ∧ ∀ x ∈ l, ((x.f3).size : Int) ≤ a) := by
  unfold laws_szEntryS.f
  have hw : wrap64 (a - (l.length : Int)) = a - (l.length : Int) := by unfold wrap64; omega
  rw [hw]
  by_cases h : a - (l.length : Int) < 0
  · rw [if_pos h]; exact ⟨-1, rfl, fun h => by omega⟩
  · rw [if_neg h]
    obtain ⟨r, hr, hb⟩ := szEntryS_loop l (by omega) hs l.length k 0 (a - l.length) (by omega) (by omega) (by omega) (by omega) (by omega)
    refine ⟨r, hr, fun h => ?_⟩
    have hb' := hb h
    refine ⟨by omega, by omega, fun x hx => ?_⟩
    obtain ⟨j, hj, rfl⟩ := List.getElem_of_mem hx
    have := hb'.2 j hj (by omega)
    omega
theorem rd126_at (l : List S126) (i : Nat) (h : i < l.length) : rd_T126 l (i : Int) = l[i] := by
  unfold rd_T126; rw [Int.toNat_natCast, List.getD_eq_getElem?_getD, List.getElem?_eq_getElem h]; rfl
theorem rd152_at (l : List S152) (i : Nat) (h : i < l.length) : rd_T152 l (i : Int) = l[i] := by
  unfold rd_T152; rw [Int.toNat_natCast, List.getD_eq_getElem?_getD, List.getElem?_eq_getElem h]; rfl
def cvTomb (x : S152) : S126 := ⟨x.f0, x.f1⟩
theorem toTombS_loop (l : List S152) (hl : l.length ≤ 1048576) (d : Nat) : ∀ (k i : Nat) (x : List S126), x.length = l.length → i ≤ l.length → l.length - i = d → d < k →
    laws_toTombS.l0 k l x (i : Int) = some (x.take i ++ (l.drop i).map cvTomb) := by
  induction d with
  | zero =>
    intro k i x hx hi hd hk
    obtain ⟨k, rfl⟩ : ∃ m, k = m + 1 := ⟨k - 1, by omega⟩
    obtain rfl : i = l.length := by omega
    simp only [laws_toTombS.l0]
    rw [if_neg (by omega), List.drop_length, List.map_nil, List.append_nil, ← hx, List.take_length]
  | succ d ih =>
    intro k i x hx hi hd hk
    obtain ⟨k, rfl⟩ : ∃ m, k = m + 1 := ⟨k - 1, by omega⟩
    have hlt : i < l.length := by omega
    simp only [laws_toTombS.l0, laws_toTomb.f, Option.bind_some]
    rw [if_pos (by omega), if_pos (by omega), if_pos (by omega), rd152_at l i hlt, cast_wrap hlt (by omega), ih k (i + 1) _ (by simpa using hx) (by omega) (by omega) (by omega), Int.toNat_natCast, take_set_succ _ _ _ (by omega),
      List.drop_eq_getElem_cons hlt, List.map_cons, List.append_assoc]
    rfl
theorem toTombS_eq (l : List S152) (hl : l.length ≤ 1048576) (k : Nat) (hk : l.length < k) : laws_toTombS.f k l = some (l.map cvTomb) := by
  unfold laws_toTombS.f
  rw [if_pos (by omega), if_pos (by omega)]
  have := toTombS_loop l hl l.length k 0 (List.replicate ((l.length : Int)).toNat z126) (by simp) (by omega) (by omega) hk
  refine Eq.trans this ?_
  simp
theorem eqTomb_same (x0 : Int) (x1 : ByteArray) : laws_eqTomb.f x0 x1 x0 x1 = some true := by simp [laws_eqTomb.f]
theorem eqTombS_loop (a : List S126) (hl : a.length ≤ 1048576) (d : Nat) : ∀ (k i : Nat), i ≤ a.length → a.length - i = d → d < k → laws_eqTombS.l0 k a a (i : Int) = some true := by
  induction d with
  | zero =>
    intro k i hi hd hk
    obtain ⟨k, rfl⟩ : ∃ m, k = m + 1 := ⟨k - 1, by omega⟩
    simp only [laws_eqTombS.l0]
    rw [if_neg (by omega)]
  | succ d ih =>
    intro k i hi hd hk
    obtain ⟨k, rfl⟩ : ∃ m, k = m + 1 := ⟨k - 1, by omega⟩
    have hlt : i < a.length := by omega
    simp only [laws_eqTombS.l0]
    rw [if_pos (by omega), if_pos (by omega), if_pos (by omega), eqTomb_same, cast_wrap hlt (by omega), ih k (i + 1) (by omega) (by omega) (by omega)]
    simp
theorem eqTombS_same (a : List S126) (hl : a.length ≤ 1048576) (k : Nat) (hk : a.length < k) : laws_eqTombS.f k a a = some true := by
  unfold laws_eqTombS.f
  rw [if_pos rfl]
  exact eqTombS_loop a hl a.length k 0 (by omega) (by omega) hk
theorem szTomb_tot (x0 : Int) (x1 : ByteArray) (a : Int) (h0 : 0 ≤ a) (h1 : a ≤ 1048576) (hs0 : x1.size ≤ 140737488351232) : ∃ r, laws_szTomb.f x0 x1 a = some r ∧ (0 ≤ r → r ≤ a ∧ (x1.size : Int) ≤ a) := by
  unfold laws_szTomb.f
  have w0 : wrap64 (a - (x1.size : Int)) = a - (x1.size : Int) := by unfold wrap64; omega
  simp only [w0]
  by_cases c0 : a - (x1.size : Int) < 0
  · rw [if_pos c0]; exact ⟨-1, rfl, fun h => by omega⟩
  rw [if_neg c0]
  exact ⟨_, rfl, fun _ => by omega⟩
theorem szTombS_loop (l : List S152) (hl : l.length ≤ 1048576) (hs : ∀ x ∈ l, x.f1.size ≤ 140737488351232) (d : Nat) : ∀ (k i : Nat) (a : Int), i ≤ l.length → l.length - i = d → d < k → 0 ≤ a → a ≤ 1048576 → ∃ r, laws_szTombS.l0 k l a (i : Int) = some r ∧ (0 ≤ r → r ≤ a ∧ ∀ j (h : j < l.length), i ≤ j → ((l[j].f1).size : Int) ≤ a) := by
  induction d with
  | zero =>
    intro k i a hi hd hk h0 h1
    obtain ⟨k, rfl⟩ : ∃ m, k = m + 1 := ⟨k - 1, by omega⟩
    simp only [laws_szTombS.l0]
    rw [if_neg (by omega)]
    exact ⟨a, rfl, fun _ => ⟨Int.le_refl _, fun j h hj => by omega⟩⟩
  | succ d ih =>
    intro k i a hi hd hk h0 h1
    obtain ⟨k, rfl⟩ : ∃ m, k = m + 1 := ⟨k - 1, by omega⟩
    have hlt : i < l.length := by omega
    have hsi := hs l[i] (List.getElem_mem hlt)
    obtain ⟨r, hr, hb⟩ := szTomb_tot l[i].f0 l[i].f1 a h0 h1 hsi
    simp only [laws_szTombS.l0]
    rw [if_pos (by omega), if_pos (by omega), rd152_at l i hlt, hr]
    simp only [Option.bind_some]
    by_cases hn : r < 0
    · rw [if_pos hn]; exact ⟨-1, rfl, fun h => by omega⟩
    · rw [if_neg hn, cast_wrap hlt (by omega)]
      have hb' := hb (by omega)
      obtain ⟨q, hq, hqb⟩ := ih k (i + 1) r (by omega) (by omega) (by omega) (by omega) (by omega)
      refine ⟨q, hq, fun h => ⟨by have := hqb h; omega, fun j hj hij => ?_⟩⟩
      have hqb' := hqb h
      by_cases e : j = i
      · subst e; omega
      · have := hqb'.2 j hj (by omega)
        omega
theorem szTombS_tot (l : List S152) (hs : ∀ x ∈ l, x.f1.size ≤ 140737488351232) (a : Int) (h0 : 0 ≤ a) (h1 : a ≤ 1048576) (hl : l.length ≤ 140737488351232) (k : Nat) (hk : 1048577 < k) : ∃ r, laws_szTombS.f k l a = some r ∧ (0 ≤ r → r ≤ a ∧ (l.length : Int) ≤ a ∧ ∀ x ∈ l, ((x.f1).size : Int) ≤ a) := by
  unfold laws_szTombS.f
  have hw : wrap64 (a - (l.length : Int)) = a - (l.length : Int) := by unfold wrap64; omega
  rw [hw]
  by_cases h : a - (l.length : Int) < 0
  · rw [if_pos h]; exact ⟨-1, rfl, fun h => by omega⟩
  · rw [if_neg h]
    obtain ⟨r, hr, hb⟩ := szTombS_loop l (by omega) hs l.length k 0 (a - l.length) (by omega) (by omega) (by omega) (by omega) (by omega)
    refine ⟨r, hr, fun h => ?_⟩
    have hb' := hb h
    refine ⟨by omega, by omega, fun x hx => ?_⟩
    obtain ⟨j, hj, rfl⟩ := List.getElem_of_mem hx
    have := hb'.2 j hj (by omega)
    omega
def dE (x y : S120) : Bool := (!(x.f0 == y.f0) || (!(x.f1 == y.f1) || (!(x.f2 == y.f2) || (!(x.f3.toList == y.f3.toList)))))
def zE : List S120 → List S120 → Bool
  | [], _ => true
  | _ :: _, [] => true
  | x :: a, y :: b => !dE x y && zE a b
def dT (x y : S126) : Bool := (!(x.f0 == y.f0) || (!(x.f1.toList == y.f1.toList)))
def zT : List S126 → List S126 → Bool
  | [], _ => true
  | _ :: _, [] => true
  | x :: a, y :: b => !dT x y && zT a b
theorem zE_nil (b : List S120) : zE [] b = true := by cases b <;> rfl
theorem zT_nil (b : List S126) : zT [] b = true := by cases b <;> rfl
theorem ien_loop (a b : List S120) (hl : a.length = b.length) (ha : a.length ≤ 1048576) : ∀ (d k i : Nat), i + d = a.length → d < k → impl_Entry.l0 k a b (a.length : Int) (i : Int) = some (zE (a.drop i) (b.drop i))
  | 0, 0, _, _, hk => by omega
  | d + 1, 0, _, _, hk => by omega
  | 0, k + 1, i, hi, _ => by
    simp only [impl_Entry.l0]
    rw [if_neg (by omega), List.drop_eq_nil_of_le (by omega), zE_nil]
  | d + 1, k + 1, i, hi, hk => by
    have h : i < a.length := by omega
    have h2 : i < b.length := by omega
    simp only [impl_Entry.l0]
    rw [if_pos (by omega), if_pos (by omega), if_pos (by omega), if_pos (by omega), rd120_at a i h, rd120_at b i h2, cast_wrap h (by omega), List.drop_eq_getElem_cons h, List.drop_eq_getElem_cons h2, ien_loop a b hl ha d k (i + 1) (by omega) (by omega)]
    show (if dE a[i] b[i] = true then _ else _) = some (!dE a[i] b[i] && _)
    cases dE a[i] b[i] <;> rfl
theorem itm_loop (a b : List S126) (hl : a.length = b.length) (ha : a.length ≤ 1048576) : ∀ (d k i : Nat), i + d = a.length → d < k → impl_Tomb.l0 k a b (a.length : Int) (i : Int) = some (zT (a.drop i) (b.drop i))
  | 0, 0, _, _, hk => by omega
  | d + 1, 0, _, _, hk => by omega
  | 0, k + 1, i, hi, _ => by
    simp only [impl_Tomb.l0]
    rw [if_neg (by omega), List.drop_eq_nil_of_le (by omega), zT_nil]
  | d + 1, k + 1, i, hi, hk => by
    have h : i < a.length := by omega
    have h2 : i < b.length := by omega
    simp only [impl_Tomb.l0]
    rw [if_pos (by omega), if_pos (by omega), if_pos (by omega), if_pos (by omega), rd126_at a i h, rd126_at b i h2, cast_wrap h (by omega), List.drop_eq_getElem_cons h, List.drop_eq_getElem_cons h2, itm_loop a b hl ha d k (i + 1) (by omega) (by omega)]
    show (if dT a[i] b[i] = true then _ else _) = some (!dT a[i] b[i] && _)
    cases dT a[i] b[i] <;> rfl
section
variable (p0 p1 p4 p5 p6 p7 p8 p9 q0 q1 q4 q5 q6 q7 q8 q9 : Int) (a b : List S120) (c e : List S126)
theorem stm_loop (hl : c.length = e.length) (ha : c.length ≤ 1048576) : ∀ (d k i : Nat), i + d = c.length → d < k → spec_SameState.l1 k (i : Int) p0 p1 a c p4 p5 p6 p7 p8 p9 q0 q1 b e q4 q5 q6 q7 q8 q9 = some (zT (c.drop i) (e.drop i))
  | 0, 0, _, _, hk => by omega
  | d + 1, 0, _, _, hk => by omega
  | 0, k + 1, i, hi, _ => by
    simp only [spec_SameState.l1]
    rw [if_neg (by omega), List.drop_eq_nil_of_le (by omega), zT_nil]
  | d + 1, k + 1, i, hi, hk => by
    have h : i < c.length := by omega
    have h2 : i < e.length := by omega
    simp only [spec_SameState.l1]
    rw [if_pos (by omega), if_pos (by omega), if_pos (by omega), rd126_at c i h, rd126_at e i h2, cast_wrap h (by omega), List.drop_eq_getElem_cons h, List.drop_eq_getElem_cons h2, stm_loop hl ha d k (i + 1) (by omega) (by omega)]
    show (if dT c[i] e[i] = true then _ else _) = some (!dT c[i] e[i] && _)
    cases dT c[i] e[i] <;> rfl
theorem sen_loop (hl : a.length = b.length) (ha : a.length ≤ 1048576) (hl2 : c.length = e.length) (hc : c.length ≤ 1048576) : ∀ (d k i : Nat), i + d = a.length → d + c.length + 1 < k → spec_SameState.l0 k (i : Int) p0 p1 a c p4 p5 p6 p7 p8 p9 q0 q1 b e q4 q5 q6 q7 q8 q9 = some (zE (a.drop i) (b.drop i) && zT c e)
  | 0, 0, _, _, hk => by omega
  | d + 1, 0, _, _, hk => by omega
  | 0, k + 1, i, hi, hk => by
    simp only [spec_SameState.l0]
    have := stm_loop p0 p1 p4 p5 p6 p7 p8 p9 q0 q1 q4 q5 q6 q7 q8 q9 a b c e hl2 hc c.length k 0 (by omega) (by omega)
    rw [show ((0 : Nat) : Int) = 0 from rfl, List.drop_zero, List.drop_zero] at this
    rw [if_neg (by omega), this, List.drop_eq_nil_of_le (by omega), zE_nil]
    rfl
  | d + 1, k + 1, i, hi, hk => by
    have h : i < a.length := by omega
    have h2 : i < b.length := by omega
    simp only [spec_SameState.l0]
    rw [if_pos (by omega), if_pos (by omega), if_pos (by omega), rd120_at a i h, rd120_at b i h2, cast_wrap h (by omega), List.drop_eq_getElem_cons h, List.drop_eq_getElem_cons h2, sen_loop hl ha hl2 hc d k (i + 1) (by omega) (by omega)]
    show (if dE a[i] b[i] = true then _ else _) = some ((!dE a[i] b[i] && _) && _)
    cases dE a[i] b[i] <;> rfl
theorem state_same (ha : a.length ≤ 1048576) (hc : c.length ≤ 1048576) (k : Nat) (hk : 2999990 < k) :
    ∃ r, spec_SameState.f k p0 p1 a c p4 p5 p6 p7 p8 p9 q0 q1 b e q4 q5 q6 q7 q8 q9 = some r ∧ impl_SameState.f k p0 p1 a c p4 p5 p6 p7 p8 p9 q0 q1 b e q4 q5 q6 q7 q8 q9 = some r := by
  obtain ⟨j, hj⟩ : ∃ j, k = j + 1 := ⟨k - 1, by omega⟩
  have ht : spec_SameState.j0 k true p0 p1 a c p4 p5 p6 p7 p8 p9 q0 q1 b e q4 q5 q6 q7 q8 q9 = some false := by
    rw [hj]
    simp only [spec_SameState.j0, if_true]
  have hf : a.length = b.length → c.length = e.length → spec_SameState.j0 k false p0 p1 a c p4 p5 p6 p7 p8 p9 q0 q1 b e q4 q5 q6 q7 q8 q9 = some (zE a b && zT c e) := by
    intro h1 h2
    have := sen_loop p0 p1 p4 p5 p6 p7 p8 p9 q0 q1 q4 q5 q6 q7 q8 q9 a b c e h1 ha h2 hc a.length j 0 (by omega) (by omega)
    rw [show ((0 : Nat) : Int) = 0 from rfl, List.drop_zero, List.drop_zero] at this
    rw [hj]
    simp only [spec_SameState.j0, Bool.false_eq_true, if_false]
    exact this
  have hE : impl_Entry.f k a b = some (decide (a.length = b.length) && zE a b) := by
    unfold impl_Entry.f
    by_cases h : a.length = b.length
    · have := ien_loop a b h ha a.length k 0 (by omega) (by omega)
      rw [show ((0 : Nat) : Int) = 0 from rfl, List.drop_zero, List.drop_zero] at this
      rw [if_pos (by omega), this, decide_eq_true h, Bool.true_and]
    · rw [if_neg (by omega), decide_eq_false h, Bool.false_and]
  have hT : impl_Tomb.f k c e = some (decide (c.length = e.length) && zT c e) := by
    unfold impl_Tomb.f
    by_cases h : c.length = e.length
    · have := itm_loop c e h hc c.length k 0 (by omega) (by omega)
      rw [show ((0 : Nat) : Int) = 0 from rfl, List.drop_zero, List.drop_zero] at this
      rw [if_pos (by omega), this, decide_eq_true h, Bool.true_and]
    · rw [if_neg (by omega), decide_eq_false h, Bool.false_and]
  have hg1 : (!(p4 == q4) || (!(p5 == q5) || (!(p6 == q6)))) = !(p4 == q4 && (p5 == q5 && (p6 == q6))) := by simp only [Bool.not_and]
  have hg2 : (!(p7 == q7) || (!(p8 == q8) || (!(p9 == q9)))) = !(p7 == q7 && (p8 == q8 && (p9 == q9))) := by simp only [Bool.not_and]
  unfold spec_SameState.f impl_SameState.f
  simp only [ht, hE, hT, Option.bind_some]
  rw [hg1, hg2]
  generalize (p4 == q4 && (p5 == q5 && (p6 == q6))) = g1
  generalize (p7 == q7 && (p8 == q8 && (p9 == q9))) = g2
  by_cases c0 : p0 = q0
  · rw [if_pos c0, if_pos c0]
    by_cases c1 : p1 = q1
    · rw [if_pos c1, if_pos c1]
      cases g1 with
      | false => exact ⟨false, by simp, by cases (decide (a.length = b.length) && zE a b) <;> cases (decide (c.length = e.length) && zT c e) <;> simp⟩
      | true =>
        cases g2 with
        | false => exact ⟨false, by simp, by cases (decide (a.length = b.length) && zE a b) <;> cases (decide (c.length = e.length) && zT c e) <;> simp⟩
        | true =>
          simp only [Bool.not_true, Bool.false_eq_true, if_false, if_true]
          by_cases l1 : a.length = b.length
          · rw [if_pos (show (a.length : Int) = (b.length : Int) by omega), decide_eq_true l1, Bool.true_and]
            by_cases l2 : c.length = e.length
            · rw [show ((c.length : Int) != (e.length : Int)) = false by simp [l2], hf l1 l2, decide_eq_true l2, Bool.true_and]
              exact ⟨_, rfl, by cases zE a b <;> cases zT c e <;> rfl⟩
            · rw [show ((c.length : Int) != (e.length : Int)) = true by simp; omega, ht, decide_eq_false l2, Bool.false_and]
              exact ⟨false, rfl, by cases zE a b <;> simp⟩
          · rw [if_neg (show ¬ (a.length : Int) = (b.length : Int) by omega), decide_eq_false l1, Bool.false_and]
            exact ⟨false, rfl, by simp⟩
    · rw [if_neg c1, if_neg c1]
      exact ⟨false, rfl, rfl⟩
  · rw [if_neg c0, if_neg c0]
    exact ⟨false, rfl, rfl⟩
end
theorem eqIA (a b c : Int) : laws_eqIntA3.f a b c a b c = some true := by simp [laws_eqIntA3.f]
theorem FnExactSameState : laws_FnExactSameState.Pure := by
  intro p0 p1 a c p4 p5 p6 p7 p8 p9 q0 q1 b e q4 q5 q6 q7 q8 q9 _ _ ⟨_, ha, sa⟩ ⟨_, hc, sc⟩ _ _ _ _ _ _ _ _ ⟨_, hb, sb⟩ ⟨_, he, se⟩ _ _ _ _ _ _
  obtain ⟨k, hk⟩ : ∃ k : Nat, k = 3000000 := ⟨_, rfl⟩
  refine ⟨k, ?_⟩
  unfold laws_FnExactSameState.f laws_szState.f
  obtain ⟨r1, s1, b1⟩ := szEntryS_tot a (fun x hx => (sa x hx).2.2.2) 1048576 (by omega) (by omega) (by omega) k (by omega)
  rw [s1]
  simp only [Option.bind_some]
  by_cases ca : r1 < 0
  · simp [ca]
  have b1 := b1 (by omega)
  obtain ⟨r2, s2, b2⟩ := szTombS_tot c (fun x hx => (sc x hx).2) r1 (by omega) (by omega) (by omega) k (by omega)
  simp only [ca, if_false, Option.bind_some, s2]
  by_cases cb : r2 < 0
  · simp [cb]
  have b2 := b2 (by omega)
  obtain ⟨r3, s3, b3⟩ := szEntryS_tot b (fun x hx => (sb x hx).2.2.2) r2 (by omega) (by omega) (by omega) k (by omega)
  simp only [cb, if_false, Option.bind_some, s3]
  by_cases cc : r3 < 0
  · simp [cc]
  have b3 := b3 (by omega)
  obtain ⟨r4, s4, b4⟩ := szTombS_tot e (fun x hx => (se x hx).2) r3 (by omega) (by omega) (by omega) k (by omega)
  simp only [cc, if_false, Option.bind_some, s4]
  by_cases cd : r4 < 0
  · simp [cd]
  have b4 := b4 (by omega)
  have la : (a.map cvEntry).length = a.length := by simp
  have lc : (c.map cvTomb).length = c.length := by simp
  have lb : (b.map cvEntry).length = b.length := by simp
  have le : (e.map cvTomb).length = e.length := by simp
  obtain ⟨r, h1, h2⟩ := state_same p0 p1 p4 p5 p6 p7 p8 p9 q0 q1 q4 q5 q6 q7 q8 q9 (a.map cvEntry) (b.map cvEntry) (c.map cvTomb) (e.map cvTomb) (by omega) (by omega) k (by omega)
  simp only [cd, if_false, Option.bind_some, laws_toState.f, laws_toIntA3.f, toEntryS_eq a (by omega) k (by omega), toEntryS_eq b (by omega) k (by omega), toTombS_eq c (by omega) k (by omega), toTombS_eq e (by omega) k (by omega), h1, h2, laws_eqState.f, eqIA,
    eqEntryS_same (a.map cvEntry) (by omega) k (by omega), eqEntryS_same (b.map cvEntry) (by omega) k (by omega), eqTombS_same (c.map cvTomb) (by omega) k (by omega), eqTombS_same (e.map cvTomb) (by omega) k (by omega), bne_self_eq_false, Bool.false_eq_true, if_true]

end Go.Proofs.Yteiolcfgaklafaa.Pure
