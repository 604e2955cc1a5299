/- The pure law of FnStore: what the printed functions compute answers true for every input of the kinds and sizes that the statement gives. -/
import Derived.Test.YtgkfemnfbkgeiaaKinFnStore
namespace Go.Proofs.Ytgkfemnfbkgeiaa.Pure
open Go.RowKit Go.Proofs.YtgkfemnfbkgeiaaW.PrintWords Go.Proofs.YtgkfemnfbkgeiaaW.PrintLast Go.Proofs.Ytgkfemnfbkgeiaa.XFnStore
set_option linter.unusedSimpArgs false
set_option linter.unusedVariables false

-- BODY
theorem wrap_id (n : Int) (h0 : -9223372036854775808 ≤ n) (h1 : n ≤ 9223372036854775807) : wrap64 n = n := by
  unfold wrap64
  omega
/-- bytes, as they are handed in -/
def Bytes (c : List Int) : Prop := ∀ y ∈ c, 0 ≤ y ∧ y ≤ 255
theorem bytes_of {c : List Int} (h : ∀ y ∈ c, (Lit.int .u8 y).wf = true) : Bytes c := by
  intro y hy
  have := h y hy
  unfold Lit.wf at this
  rw [Bool.and_eq_true, decide_eq_true_eq, decide_eq_true_eq] at this
  have h1 : IntKind.u8.min = 0 := by decide
  have h2 : IntKind.u8.max = 255 := by decide
  omega
theorem rd_byte {c : List Int} (h : Bytes c) (i : Int) : 0 ≤ rd c i ∧ rd c i ≤ 255 := by
  unfold rd
  by_cases hi : i.toNat < c.length
  · rw [List.getD_eq_getElem?_getD, List.getElem?_eq_getElem hi]
    exact h _ (List.getElem_mem hi)
  · rw [List.getD_eq_getElem?_getD, List.getElem?_eq_none (by omega)]
    exact ⟨Int.le_refl _, by decide⟩
theorem tmod_in (x m : Int) (h0 : 0 ≤ x) (h1 : 0 < m) : 0 ≤ Int.tmod x m ∧ Int.tmod x m < m := by
  rw [Int.tmod_eq_emod_of_nonneg h0]
  exact ⟨Int.emod_nonneg _ (by omega), Int.emod_lt_of_pos _ h1⟩
/-- a byte is drawn -/
theorem byte_ok {c : List Int} (hc : Bytes c) (p s : Int) (hp : 0 ≤ p) (hp1 : p ≤ 100000) (hs : 0 ≤ s) (hs1 : s < 2147483648) : ∃ v s', spec_l00Src_byte.f c p s = some (v, p + 1, s') ∧ 0 ≤ v ∧ v ≤ 255 ∧ 0 ≤ s' ∧ s' < 2147483648 := by
  unfold spec_l00Src_byte.f
  rw [if_pos ⟨hp, by omega⟩]
  obtain ⟨b0, b1⟩ := rd_byte hc p
  by_cases hl : p + 1 ≤ (c.length : Int)
  · rw [if_pos hl, wrap_id (rd c p) (by omega) (by omega), wrap_id (s * 31) (by omega) (by omega), wrap_id (s * 31 + rd c p) (by omega) (by omega), wrap_id (s * 31 + rd c p + 7) (by omega) (by omega)]
    obtain ⟨h1, h2⟩ := tmod_in (s * 31 + rd c p + 7) 2147483648 (by omega) (by omega)
    exact ⟨_, _, rfl, b0, b1, h1, h2⟩
  · rw [if_neg hl]
    by_cases hl2 : p + 1 > 3000
    · rw [if_pos hl2]
      exact ⟨_, _, rfl, by omega, by omega, hs, hs1⟩
    · rw [if_neg hl2, wrap_id (s * 1103515245) (by omega) (by omega), wrap_id (s * 1103515245 + 12345) (by omega) (by omega)]
      obtain ⟨h1, h2⟩ := tmod_in (s * 1103515245 + 12345) 2147483648 (by omega) (by omega)
      generalize Int.tmod (s * 1103515245 + 12345) 2147483648 = t at *
      have h3 : 0 ≤ Int.tdiv t 65536 ∧ Int.tdiv t 65536 ≤ 32768 := by
        rw [Int.tdiv_eq_ediv_of_nonneg h1]
        omega
      rw [wrap_id (Int.tdiv t 65536) (by omega) (by omega)]
      obtain ⟨h4, h5⟩ := tmod_in (Int.tdiv t 65536) 256 (by omega) (by omega)
      exact ⟨_, _, rfl, h4, by omega, h1, h2⟩
/-- one of n is drawn -/
theorem next_ok {c : List Int} (hc : Bytes c) (p s n : Int) (hp : 0 ≤ p) (hp1 : p ≤ 100000) (hs : 0 ≤ s) (hs1 : s < 2147483648) (hn : 2 ≤ n) (hn1 : n ≤ 256) : ∃ v s', spec_l00Src_next.f c p s n = some (v, p + 1, s') ∧ 0 ≤ v ∧ v < n ∧ 0 ≤ s' ∧ s' < 2147483648 := by
  obtain ⟨v, s', h, h0, h1, h2, h3⟩ := byte_ok hc p s hp hp1 hs hs1
  unfold spec_l00Src_next.f
  rw [if_neg (by omega), if_pos hn1, h]
  simp only [Option.bind_some]
  rw [if_neg (by omega)]
  obtain ⟨h4, h5⟩ := tmod_in v n h0 (by omega)
  exact ⟨_, _, rfl, h4, h5, h2, h3⟩
theorem source_eq (c : List Int) : spec_l00Source.f c = some (c, 0, (c.length : Int) % 1000) := rfl
/-- a choice that bytes make -/
theorem at_ok {c : List Int} (hc : Bytes c) (hl : c.length ≤ 140737488351232) (i n : Int) (hi : 0 ≤ i) (hi1 : i ≤ 1000) (hn : 1 ≤ n) (hn1 : n ≤ 100000) : ∃ v, laws_at.f c i n = some v ∧ 0 ≤ v ∧ v < n := by
  unfold laws_at.f
  by_cases h1 : n ≤ 1
  · rw [if_pos h1]; exact ⟨_, rfl, by omega, by omega⟩
  · rw [if_neg h1]
    by_cases h2 : (c.length : Int) = 0
    · rw [if_pos h2, if_neg (by omega), wrap_id (i * 7) (by omega) (by omega)]
      obtain ⟨h4, h5⟩ := tmod_in (i * 7) n (by omega) (by omega)
      exact ⟨_, rfl, h4, h5⟩
    · rw [if_neg h2, wrap_id (i + 1) (by omega) (by omega)]
      obtain ⟨a0, a1⟩ := tmod_in i (c.length : Int) (by omega) (by omega)
      obtain ⟨a2, a3⟩ := tmod_in (i + 1) (c.length : Int) (by omega) (by omega)
      rw [if_pos a0, if_pos a1, if_pos a2, if_pos a3, if_neg (by omega)]
      obtain ⟨b0, b1⟩ := rd_byte hc (Int.tmod i (c.length : Int))
      obtain ⟨b2, b3⟩ := rd_byte hc (Int.tmod (i + 1) (c.length : Int))
      generalize rd c (Int.tmod i (c.length : Int)) = x at *
      generalize rd c (Int.tmod (i + 1) (c.length : Int)) = y at *
      have h3 : 0 ≤ Int.tdiv i (c.length : Int) ∧ Int.tdiv i (c.length : Int) ≤ i := by
        rw [Int.tdiv_eq_ediv_of_nonneg hi]
        exact ⟨Int.ediv_nonneg hi (by omega), Int.ediv_le_self _ hi⟩
      generalize Int.tdiv i (c.length : Int) = z at *
      rw [wrap_id x (by omega) (by omega), wrap_id y (by omega) (by omega), wrap_id z (by omega) (by omega), wrap_id (x * 31) (by omega) (by omega), wrap_id (x * 31 + y) (by omega) (by omega), wrap_id (x * 31 + y + z) (by omega) (by omega)]
      obtain ⟨h4, h5⟩ := tmod_in (x * 31 + y + z) n (by omega) (by omega)
      exact ⟨_, rfl, h4, h5⟩
theorem within_eq (a b c : Int) : impl_within.f a b c = some (decide (b ≤ a) && decide (a ≤ c)) := by
  unfold impl_within.f; by_cases h : b ≤ a <;> simp [h]
theorem in_eq (a b c : Int) : spec_l01In.f a b c = some (decide (b ≤ a) && decide (a ≤ c)) := by
  unfold spec_l01In.f; by_cases h : b ≤ a <;> simp [h]
theorem rd32_at (l : List S32) (i : Nat) (h : i < l.length) : rd_T32 l (i : Int) = l[i] := by
  unfold rd_T32; rw [Int.toNat_natCast, List.getD_eq_getElem?_getD, List.getElem?_eq_getElem h]; rfl
theorem first2 (k : Nat) (b1 b2 : Bool) (c1 c2 : Int) : impl_first.f (k + 3) [anyB b1, anyI c1, anyB b2, anyI c2] = some (if b1 = true then c1 else if b2 = true then c2 else 0) := by
  have w1 : wrap64 1 = 1 := by unfold wrap64; omega
  have w2 : wrap64 2 = 2 := by unfold wrap64; omega
  have w3 : wrap64 3 = 3 := by unfold wrap64; omega
  have w4 : wrap64 4 = 4 := by unfold wrap64; omega
  have w5 : wrap64 5 = 5 := by unfold wrap64; omega
  cases b1 <;> cases b2 <;> simp [impl_first.f, impl_first.l0, w1, w2, w3, w4, w5, rdOf, anyAsB, anyAsI]
theorem first3 (k : Nat) (b1 b2 b3 : Bool) (c1 c2 c3 : Int) : impl_first.f (k + 4) [anyB b1, anyI c1, anyB b2, anyI c2, anyB b3, anyI c3] = some (if b1 = true then c1 else if b2 = true then c2 else if b3 = true then c3 else 0) := by
  have w1 : wrap64 1 = 1 := by unfold wrap64; omega
  have w2 : wrap64 2 = 2 := by unfold wrap64; omega
  have w3 : wrap64 3 = 3 := by unfold wrap64; omega
  have w4 : wrap64 4 = 4 := by unfold wrap64; omega
  have w5 : wrap64 5 = 5 := by unfold wrap64; omega
  have w6 : wrap64 6 = 6 := by unfold wrap64; omega
  have w7 : wrap64 7 = 7 := by unfold wrap64; omega
  cases b1 <;> cases b2 <;> cases b3 <;> simp [impl_first.f, impl_first.l0, w1, w2, w3, w4, w5, w6, w7, rdOf, anyAsB, anyAsI]
/-- a byte that a key may hold -/
def kb (b : Int) : Bool := decide ((48 ≤ b ∧ b ≤ 57) ∨ (97 ≤ b ∧ b ≤ 122) ∨ b = 47 ∨ b = 45)
theorem kspec_round (x : ByteArray) (k : Nat) (i : Int) (h0 : 0 ≤ i) (hl : i < (x.size : Int)) (hw : wrap64 (i + 1) = i + 1) :
    spec_KeyOK.l0 (k + 1) x i = if kb (bt x i) = true then spec_KeyOK.l0 k x (i + 1) else some false := by
  simp only [spec_KeyOK.l0, spec_l00Digit.f, hw]
  rw [if_pos hl, if_pos h0]
  unfold kb
  generalize bt x i = b
  by_cases a1 : b ≥ 48 <;> by_cases a2 : b ≤ 57 <;> by_cases a3 : b < 97 <;> by_cases a4 : b > 122 <;> by_cases a5 : b = 47 <;> by_cases a6 : b = 45 <;>
    first | omega | (simp [a1, a2, a3, a4, a5, a6] <;> omega)
theorem kimpl_round (x : ByteArray) (k : Nat) (i : Int) (h0 : 0 ≤ i) (hl : i < (x.size : Int)) (hw : wrap64 (i + 1) = i + 1) :
    impl_KeyOK.l0 (k + 1) x (x.size : Int) i = if kb (bt x i) = true then impl_KeyOK.l0 k x (x.size : Int) (i + 1) else some false := by
  simp only [impl_KeyOK.l0, hw]
  rw [if_pos hl, if_pos h0, if_pos hl]
  unfold kb
  generalize bt x i = b
  by_cases a1 : b < 48 <;> by_cases a2 : b > 57 <;> by_cases a3 : b < 97 <;> by_cases a4 : b > 122 <;> by_cases a5 : b = 47 <;> by_cases a6 : b = 45 <;>
    first | omega | (simp [a1, a2, a3, a4, a5, a6] <;> omega)
def kFrom (x : ByteArray) (i : Nat) : Bool := ((List.range x.size).drop i).all (fun j => kb (bt x (j : Int))) && (decide (1 ≤ (x.size : Int)) && decide ((x.size : Int) ≤ 30))
theorem kFrom_step (x : ByteArray) (i : Nat) (h : i < x.size) : kFrom x i = (kb (bt x (i : Int)) && kFrom x (i + 1)) := by
  unfold kFrom
  rw [List.drop_eq_getElem_cons (show i < (List.range x.size).length by rw [List.length_range]; exact h), List.all_cons, List.getElem_range, Bool.and_assoc]
theorem key_loops (x : ByteArray) (hn : x.size ≤ 140737488351232) (d : Nat) : ∀ (k i : Nat), i ≤ x.size → x.size - i = d → d < k →
    spec_KeyOK.l0 k x (i : Int) = some (kFrom x i) ∧ impl_KeyOK.l0 k x (x.size : Int) (i : Int) = some (kFrom x i) := by
  induction d with
  | zero =>
    intro k i h1 hd hk
    obtain ⟨k, rfl⟩ : ∃ m, k = m + 1 := ⟨k - 1, by omega⟩
    obtain rfl : i = x.size := by omega
    have e : kFrom x x.size = (decide (1 ≤ (x.size : Int)) && decide ((x.size : Int) ≤ 30)) := by
      unfold kFrom
      rw [List.drop_of_length_le (by rw [List.length_range]; exact Nat.le_refl _)]
      rfl
    simp only [spec_KeyOK.l0, impl_KeyOK.l0, in_eq, within_eq, Option.bind_some]
    rw [if_neg (by omega), e]
    exact ⟨rfl, by rw [if_neg (by omega)]⟩
  | succ d ih =>
    intro k i h1 hd hk
    obtain ⟨k, rfl⟩ : ∃ m, k = m + 1 := ⟨k - 1, by omega⟩
    have hlt : i < x.size := by omega
    have hw : wrap64 ((i : Int) + 1) = (i : Int) + 1 := by unfold wrap64; omega
    obtain ⟨h1, h2⟩ := ih k (i + 1) (by omega) (by omega) (by omega)
    have e : ((i : Int) + 1) = ((i + 1 : Nat) : Int) := by omega
    rw [kspec_round x k i (by omega) (by omega) hw, kimpl_round x k i (by omega) (by omega) hw, e, h1, h2, kFrom_step x i hlt]
    cases kb (bt x (i : Int)) <;> simp
/-- a key -/
def kOK (x : ByteArray) : Bool := kFrom x 0
theorem keyOK_eq (x : ByteArray) (hn : x.size ≤ 140737488351232) (k : Nat) (hk : x.size < k) : spec_KeyOK.f k x = some (kOK x) ∧ impl_KeyOK.f k x = some (kOK x) := by
  obtain ⟨h1, h2⟩ := key_loops x hn x.size k 0 (by omega) (by omega) hk
  unfold spec_KeyOK.f impl_KeyOK.f
  have e : ((0 : Nat) : Int) = 0 := rfl
  rw [e] at h1 h2
  refine ⟨?_, h2⟩
  by_cases h : (x.size : Int) > 65536
  · rw [if_pos h]
    have : kOK x = false := by
      unfold kOK kFrom
      rw [decide_eq_false (show ¬ (x.size : Int) ≤ 30 by omega)]
      simp
    rw [this]
  · rw [if_neg h]
    exact h1
/-- what is asked of the object at place i -/
def dupB (l : List S32) (i : Nat) (v : Int) : Bool := (l.take i).any (fun x => decide (x.f1 = v))
def ordB (l : List S32) (i : Nat) : Bool := decide (i = 0) || Op.bytesLess ((l.getD (i - 1) z32).f0).toList ((l.getD i z32).f0).toList
def objB (l : List S32) (next : Int) (i : Nat) : Bool :=
  kOK (l.getD i z32).f0 && ((decide (1 ≤ (l.getD i z32).f1) && decide ((l.getD i z32).f1 ≤ wrap64 (next - 1))) && (decide (((l.getD i z32).f2.size : Int) ≤ 600) && (ordB l i && !(dupB l i (l.getD i z32).f1))))
def objsB (l : List S32) (next : Int) (i : Nat) : Bool := ((List.range l.length).drop i).all (fun j => objB l next j)
theorem objsB_step (l : List S32) (next : Int) (i : Nat) (h : i < l.length) : objsB l next i = (objB l next i && objsB l next (i + 1)) := by
  unfold objsB
  rw [List.drop_eq_getElem_cons (show i < (List.range l.length).length by rw [List.length_range]; exact h), List.all_cons, List.getElem_range]
theorem objsB_end (l : List S32) (next : Int) : objsB l next l.length = true := by
  unfold objsB
  rw [List.drop_of_length_le (by rw [List.length_range]; exact Nat.le_refl _)]
  rfl
def storeB (l : List S32) (next : Int) : Bool := objsB l next 0 && (decide ((l.length : Int) ≤ 300) && (decide (1 ≤ next) && decide (next ≤ 1000000000)))
theorem dup_loop (l : List S32) (hl : l.length ≤ 1048576) (next v : Int) (a b : ByteArray) (i : Nat) (hi : i < l.length) (d : Nat) : ∀ (k0 j : Nat), j ≤ i → i - j = d →
    spec_StoreOK.l1 (k0 + d + 1) (i : Int) (j : Int) l next a v b = if ((l.take i).drop j).any (fun x => decide (x.f1 = v)) = true then some false else spec_StoreOK.l0 k0 ((i + 1 : Nat) : Int) l next := by
  have hw : wrap64 ((i : Int) + 1) = ((i + 1 : Nat) : Int) := by unfold wrap64; omega
  induction d with
  | zero =>
    intro k0 j hj hd
    obtain rfl : j = i := by omega
    simp only [spec_StoreOK.l1]
    rw [if_neg (by omega), hw, List.drop_of_length_le (by rw [List.length_take]; omega)]
    rfl
  | succ d ih =>
    intro k0 j hj hd
    have hlt : j < i := by omega
    have hwj : wrap64 ((j : Int) + 1) = ((j + 1 : Nat) : Int) := by unfold wrap64; omega
    have hd2 : (l.take i).drop j = l[j]'(by omega) :: (l.take i).drop (j + 1) := by
      rw [List.drop_eq_getElem_cons (show j < (l.take i).length by rw [List.length_take]; omega), List.getElem_take]
    have ihj := ih k0 (j + 1) (by omega) (by omega)
    rw [show k0 + (d + 1) + 1 = (k0 + d + 1) + 1 by omega]
    generalize k0 + d + 1 = K at ihj ⊢
    simp only [spec_StoreOK.l1]
    rw [if_pos (by omega), if_pos (by omega), if_pos (by omega), rd32_at l j (by omega), hwj, ihj, hd2, List.any_cons]
    by_cases hv : (l[j]'(by omega)).f1 = v
    · rw [if_pos hv, decide_eq_true hv]; simp
    · rw [if_neg hv, decide_eq_false hv]; simp
theorem getD_at (l : List S32) (i : Nat) (h : i < l.length) : l.getD i z32 = l[i] := by
  rw [List.getD_eq_getElem?_getD, List.getElem?_eq_getElem h]; rfl
theorem sspec_step (l : List S32) (hl : l.length ≤ 1048576) (next : Int) (i : Nat) (hi : i < l.length) (k0 : Nat) (hk : (l[i]).f0.size < k0) (hs : (l[i]).f0.size ≤ 140737488351232) :
    spec_StoreOK.l0 (k0 + i + 3) (i : Int) l next = if objB l next i = true then spec_StoreOK.l0 k0 ((i + 1 : Nat) : Int) l next else some false := by
  have hd := dup_loop l hl next (l[i]).f1 (l[i]).f0 (l[i]).f2 i hi i k0 0 (by omega) (by omega)
  rw [show k0 + i + 3 = (k0 + i + 1 + 1) + 1 by omega]
  obtain ⟨hkk, _⟩ := keyOK_eq (l[i]).f0 hs (k0 + i + 1 + 1) (by omega)
  have e0 : ((0 : Nat) : Int) = 0 := rfl
  rw [e0, List.drop_zero] at hd
  simp only [spec_StoreOK.l0]
  rw [if_pos (by omega), if_pos (by omega), rd32_at l i hi, hkk]
  simp only [Option.bind_some, in_eq, spec_StoreOK.j1]
  rw [hd]
  unfold objB dupB
  rw [getD_at l i hi]
  cases kOK (l[i]).f0 with
  | false => simp
  | true =>
    simp only [if_true, Bool.true_and]
    cases (decide (1 ≤ (l[i]).f1) && decide ((l[i]).f1 ≤ wrap64 (next - 1))) with
    | false => simp
    | true =>
      simp only [if_true, Bool.true_and]
      by_cases h6 : (((l[i]).f2).size : Int) > 600
      · rw [if_pos h6, decide_eq_false (show ¬ (((l[i]).f2).size : Int) ≤ 600 by omega)]
        simp
      · rw [if_neg h6, decide_eq_true (show (((l[i]).f2).size : Int) ≤ 600 by omega), Bool.true_and]
        rcases Nat.eq_zero_or_pos i with h0 | h0
        · subst h0
          simp [ordB]
        · have hw : wrap64 ((i : Int) - 1) = ((i - 1 : Nat) : Int) := by unfold wrap64; omega
          have hr : rd_T32 l ((i - 1 : Nat) : Int) = l.getD (i - 1) z32 := by unfold rd_T32; rw [Int.toNat_natCast]
          rw [if_pos (by omega), hw, hr]
          unfold ordB
          rw [if_pos (by omega), if_pos (by omega), decide_eq_false (show ¬ i = 0 by omega), Bool.false_or, getD_at l i hi]
          cases Op.bytesLess ((l.getD (i - 1) z32).f0).toList ((l[i]).f0).toList <;> cases (l.take i).any (fun x => decide (x.f1 = (l[i]).f1)) <;> simp
def mets (l : List S32) (i : Nat) : List Int := ((l.take i).map (fun x => x.f1)).reverse
theorem mets_has (l : List S32) (i : Nat) (v : Int) : (mets l i).contains v = dupB l i v := by
  unfold mets dupB
  rw [Bool.eq_iff_iff, List.contains_iff_mem, List.mem_reverse, List.mem_map, List.any_eq_true]
  constructor
  · rintro ⟨x, hx, e⟩; exact ⟨x, hx, by simpa using e⟩
  · rintro ⟨x, hx, e⟩; exact ⟨x, hx, by simpa using e⟩
theorem mets_next (l : List S32) (i : Nat) (h : i < l.length) : (l[i]).f1 :: mets l i = mets l (i + 1) := by
  unfold mets
  rw [List.take_succ_eq_append_getElem h, List.map_append, List.reverse_append]
  rfl
theorem simpl_step (l : List S32) (hl : l.length ≤ 300) (next : Int) (i : Nat) (hi : i < l.length) (k : Nat) (hk : (l[i]).f0.size < k) (hs : (l[i]).f0.size ≤ 140737488351232) :
    impl_StoreOK.l0 (k + 1) l (l.length : Int) (i : Int) l next (mets l i) = if objB l next i = true then impl_StoreOK.l0 k l (l.length : Int) ((i + 1 : Nat) : Int) l next (mets l (i + 1)) else some false := by
  obtain ⟨_, hkk⟩ := keyOK_eq (l[i]).f0 hs k hk
  have hwi : wrap64 ((i : Int) + 1) = ((i + 1 : Nat) : Int) := by unfold wrap64; omega
  have hm : (mets l i).length < 4096 := by unfold mets; rw [List.length_reverse, List.length_map, List.length_take]; omega
  simp only [impl_StoreOK.l0]
  rw [if_pos (by omega), if_pos (by omega), if_pos (by omega), rd32_at l i hi, hkk]
  simp only [Option.bind_some, within_eq, if_pos hm, hwi]
  rw [mets_has, mets_next l i hi]
  unfold objB
  rw [getD_at l i hi]
  cases kOK (l[i]).f0 with
  | false => simp
  | true =>
    simp only [if_true, Bool.true_and]
    cases (decide (1 ≤ (l[i]).f1) && decide ((l[i]).f1 ≤ wrap64 (next - 1))) with
    | false => simp
    | true =>
      simp only [if_true, Bool.true_and]
      by_cases h6 : (((l[i]).f2).size : Int) > 600
      · rw [if_pos h6, decide_eq_false (show ¬ (((l[i]).f2).size : Int) ≤ 600 by omega)]
        simp
      · rw [if_neg h6, decide_eq_true (show (((l[i]).f2).size : Int) ≤ 600 by omega), Bool.true_and]
        rcases Nat.eq_zero_or_pos i with h0 | h0
        · subst h0
          cases dupB l 0 (l[0]).f1 <;> simp [ordB]
        · have hw : wrap64 ((i : Int) - 1) = ((i - 1 : Nat) : Int) := by unfold wrap64; omega
          have hr : rd_T32 l ((i - 1 : Nat) : Int) = l.getD (i - 1) z32 := by unfold rd_T32; rw [Int.toNat_natCast]
          cases dupB l i (l[i]).f1 with
          | true => simp
          | false =>
            simp only [Bool.false_eq_true, if_false]
            rw [if_pos (show (i : Int) > 0 by omega), hw, hr, if_pos (by omega), if_pos (by omega)]
            unfold ordB
            rw [decide_eq_false (show ¬ i = 0 by omega), Bool.false_or, getD_at l i hi]
            cases Op.bytesLess ((l.getD (i - 1) z32).f0).toList ((l[i]).f0).toList <;> simp
theorem sspec_loop (l : List S32) (hl : l.length ≤ 1048576) (S : Nat) (hS : S ≤ 140737488351232) (hs : ∀ x ∈ l, x.f0.size ≤ S) (next : Int) (d : Nat) : ∀ (k i : Nat), i ≤ l.length → l.length - i = d → d * (l.length + 5) + S + 5 < k →
    spec_StoreOK.l0 k (i : Int) l next = some (objsB l next i && (decide ((l.length : Int) ≤ 300) && (decide (1 ≤ next) && decide (next ≤ 1000000000)))) := by
  induction d with
  | zero =>
    intro k i hi hd hk
    obtain ⟨k, rfl⟩ : ∃ m, k = m + 1 := ⟨k - 1, by omega⟩
    obtain rfl : i = l.length := by omega
    simp only [spec_StoreOK.l0, in_eq, Option.bind_some]
    rw [if_neg (by omega), objsB_end, Bool.true_and]
    by_cases h : (l.length : Int) ≤ 300
    · rw [if_pos h, decide_eq_true h, Bool.true_and]
    · rw [if_neg h, decide_eq_false h, Bool.false_and]
  | succ d ih =>
    intro k i hi hd hk
    have hlt : i < l.length := by omega
    have hm : (d + 1) * (l.length + 5) = d * (l.length + 5) + (l.length + 5) := Nat.succ_mul _ _
    have hx := hs l[i] (List.getElem_mem hlt)
    generalize d * (l.length + 5) = D at hm ih
    rw [hm] at hk
    clear hm
    obtain ⟨k0, rfl⟩ : ∃ m, k = m + i + 3 := ⟨k - i - 3, by omega⟩
    rw [sspec_step l hl next i hlt k0 (by omega) (by omega), ih k0 (i + 1) (by omega) (by omega) (by omega), objsB_step l next i hlt]
    cases objB l next i <;> simp
theorem simpl_loop (l : List S32) (hl : l.length ≤ 300) (S : Nat) (hS : S ≤ 140737488351232) (hs : ∀ x ∈ l, x.f0.size ≤ S) (next : Int) (d : Nat) : ∀ (k i : Nat), i ≤ l.length → l.length - i = d → d + S + 5 < k →
    impl_StoreOK.l0 k l (l.length : Int) (i : Int) l next (mets l i) = some (objsB l next i) := by
  induction d with
  | zero =>
    intro k i hi hd hk
    obtain ⟨k, rfl⟩ : ∃ m, k = m + 1 := ⟨k - 1, by omega⟩
    obtain rfl : i = l.length := by omega
    simp only [impl_StoreOK.l0]
    rw [if_neg (by omega), objsB_end]
  | succ d ih =>
    intro k i hi hd hk
    have hlt : i < l.length := by omega
    have hx := hs l[i] (List.getElem_mem hlt)
    obtain ⟨k, rfl⟩ : ∃ m, k = m + 1 := ⟨k - 1, by omega⟩
    rw [simpl_step l hl next i hlt k (by omega) (by omega), ih k (i + 1) (by omega) (by omega) (by omega), objsB_step l next i hlt]
    cases objB l next i <;> simp
/-- a right store: both tell the same -/
theorem store_same (l : List S32) (hl : l.length ≤ 1048576) (S : Nat) (hS : S ≤ 140737488351232) (hs : ∀ x ∈ l, x.f0.size ≤ S) (next : Int) (k : Nat) (hk : l.length * (l.length + 5) + S + 320 < k) :
    spec_StoreOK.f k l next = some (storeB l next) ∧ impl_StoreOK.f k l next = some (storeB l next) := by
  have h1 := sspec_loop l hl S hS hs next l.length k 0 (by omega) (by omega) (by omega)
  refine ⟨h1, ?_⟩
  unfold impl_StoreOK.f storeB
  obtain ⟨k, rfl⟩ : ∃ m, k = m + 1 := ⟨k - 1, by omega⟩
  simp only [within_eq, Option.bind_some, impl_StoreOK.j0]
  cases (decide (1 ≤ next) && decide (next ≤ 1000000000)) with
  | false => simp
  | true =>
    simp only [if_true, Bool.and_true]
    by_cases h : (l.length : Int) > 300
    · rw [if_pos (decide_eq_true h), decide_eq_false (show ¬ (l.length : Int) ≤ 300 by omega)]
      simp
    · have h2 := simpl_loop l (by omega) S hS hs next l.length k 0 (by omega) (by omega) (by omega)
      rw [if_neg (by simpa using h), decide_eq_true (show (l.length : Int) ≤ 300 by omega), Bool.and_true]
      exact h2
theorem ikeyOK (x : ByteArray) (hn : x.size ≤ 140737488351232) (k : Nat) (hk : x.size < k) : impl_KeyOK.f k x = some (kOK x) := (keyOK_eq x hn k hk).2
theorem istoreOK (l : List S32) (hl : l.length ≤ 1048576) (S : Nat) (hS : S ≤ 140737488351232) (hs : ∀ x ∈ l, x.f0.size ≤ S) (next : Int) (k : Nat) (hk : l.length + S + 320 < k) : impl_StoreOK.f k l next = some (storeB l next) := by
  unfold impl_StoreOK.f storeB
  obtain ⟨k, rfl⟩ : ∃ m, k = m + 1 := ⟨k - 1, by omega⟩
  simp only [within_eq, Option.bind_some, impl_StoreOK.j0]
  cases (decide (1 ≤ next) && decide (next ≤ 1000000000)) with
  | false => simp
  | true =>
    simp only [if_true, Bool.and_true]
    by_cases h : (l.length : Int) > 300
    · rw [if_pos (decide_eq_true h), decide_eq_false (show ¬ (l.length : Int) ≤ 300 by omega)]
      simp
    · have h2 := simpl_loop l (by omega) S hS hs next l.length k 0 (by omega) (by omega) (by omega)
      rw [if_neg (by simpa using h), decide_eq_true (show (l.length : Int) ≤ 300 by omega), Bool.and_true]
      exact h2
theorem bl_irr : ∀ x : List UInt8, Op.bytesLess x x = false
  | [] => rfl
  | a :: x => by
    have ih := bl_irr x
    unfold Op.bytesLess
    rw [ih]
    simp
theorem bl_trans : ∀ x y z : List UInt8, Op.bytesLess x y = true → Op.bytesLess y z = true → Op.bytesLess x z = true
  | x, [], z, h, _ => by cases x <;> simp [Op.bytesLess] at h
  | x, b :: y, [], _, h => by simp [Op.bytesLess] at h
  | [], b :: y, c :: z, _, _ => rfl
  | a :: x, b :: y, c :: z, h1, h2 => by
    have ih := bl_trans x y z
    unfold Op.bytesLess at h1 h2 ⊢
    simp only [Bool.or_eq_true, decide_eq_true_eq, Bool.and_eq_true, beq_iff_eq] at h1 h2 ⊢
    rcases h1 with h1 | ⟨rfl, h1⟩
    · rcases h2 with h2 | ⟨rfl, h2⟩
      · exact .inl (UInt8.lt_trans h1 h2)
      · exact .inl h1
    · rcases h2 with h2 | ⟨rfl, h2⟩
      · exact .inl h2
      · exact .inr ⟨rfl, ih h1 h2⟩
theorem bl_total : ∀ x y : List UInt8, x = y ∨ Op.bytesLess x y = true ∨ Op.bytesLess y x = true
  | [], [] => .inl rfl
  | [], _ :: _ => .inr (.inl rfl)
  | _ :: _, [] => .inr (.inr rfl)
  | a :: x, b :: y => by
    have ih := bl_total x y
    unfold Op.bytesLess
    simp only [Bool.or_eq_true, decide_eq_true_eq, Bool.and_eq_true, beq_iff_eq]
    rcases Nat.lt_trichotomy a.toNat b.toNat with h | h | h
    · exact .inr (.inl (.inl (UInt8.lt_iff_toNat_lt.2 h)))
    · have e : a = b := UInt8.toNat_inj.1 h
      subst e
      rcases ih with rfl | h | h
      · exact .inl rfl
      · exact .inr (.inl (.inr ⟨rfl, h⟩))
      · exact .inr (.inr (.inr ⟨rfl, h⟩))
    · exact .inr (.inr (.inl (UInt8.lt_iff_toNat_lt.2 h)))
/-- the order of texts: Compare's sign, and whether they are one -/
theorem cmp_lt : ∀ x y : List UInt8, decide (Lib.compareBytes x y < 0) = Op.bytesLess x y
  | [], [] => rfl
  | [], _ :: _ => rfl
  | _ :: _, [] => rfl
  | a :: x, b :: y => by
    have ih := cmp_lt x y
    unfold Lib.compareBytes Op.bytesLess
    by_cases h : a < b
    · simp [h]
    · by_cases h2 : b < a
      · have hne : ¬ a = b := fun e => by subst e; exact h h2
        simp [h, h2, hne]
      · have e : a = b := UInt8.le_antisymm (UInt8.not_lt.1 h2) (UInt8.not_lt.1 h)
        subst e
        rw [if_neg h, if_neg h, ih]
        simp
theorem cmp_eq : ∀ x y : List UInt8, Lib.compareBytes x y = 0 ↔ x = y
  | [], [] => by simp [Lib.compareBytes]
  | [], _ :: _ => by simp [Lib.compareBytes]
  | _ :: _, [] => by simp [Lib.compareBytes]
  | a :: x, b :: y => by
    have ih := cmp_eq x y
    unfold Lib.compareBytes
    by_cases h : a < b
    · have hne : ¬ a = b := fun e => by subst e; exact UInt8.lt_irrefl _ h
      simp [h, hne]
    · by_cases h2 : b < a
      · have hne : ¬ a = b := fun e => by subst e; exact h h2
        simp [h, h2, hne]
      · have e : a = b := UInt8.le_antisymm (UInt8.not_lt.1 h2) (UInt8.not_lt.1 h)
        subst e
        rw [if_neg h, if_neg h, ih]
        simp
/-- keys rise -/
theorem ord_all (l : List S32) (next : Int) (h : objsB l next 0 = true) (i : Nat) (hi : i < l.length) : objB l next i = true := by
  unfold objsB at h
  rw [List.drop_zero, List.all_eq_true] at h
  exact h i (List.mem_range.2 hi)
theorem key_next (l : List S32) (next : Int) (h : objsB l next 0 = true) (i : Nat) (hi : i + 1 < l.length) : Op.bytesLess (l.getD i z32).f0.toList (l.getD (i + 1) z32).f0.toList = true := by
  have := ord_all l next h (i + 1) hi
  unfold objB ordB at this
  simp only [Bool.and_eq_true, Bool.or_eq_true, decide_eq_true_eq] at this
  rcases this.2.2.2.1 with e | e
  · omega
  · simpa using e
theorem key_rise (l : List S32) (next : Int) (h : objsB l next 0 = true) (i d : Nat) (hj : i + d + 1 < l.length) : Op.bytesLess (l.getD i z32).f0.toList (l.getD (i + d + 1) z32).f0.toList = true := by
  induction d with
  | zero => exact key_next l next h i hj
  | succ d ih => exact bl_trans _ _ _ (ih (by omega)) (key_next l next h (i + d + 1) hj)
theorem key_lt (l : List S32) (next : Int) (h : objsB l next 0 = true) {i j : Nat} (hij : i < j) (hj : j < l.length) : Op.bytesLess (l.getD i z32).f0.toList (l.getD j z32).f0.toList = true := by
  obtain ⟨d, rfl⟩ : ∃ d, j = i + d + 1 := ⟨j - i - 1, by omega⟩
  exact key_rise l next h i d hj
theorem lowK_eq (l : List S32) (key : ByteArray) (i : Nat) : lowK l key i = Op.bytesLess (l.getD i z32).f0.toList key.toList := by
  unfold lowK cmpK
  rw [ByteArray.toList_eq, ByteArray.toList_eq]
  exact cmp_lt _ _
theorem monoK_of (l : List S32) (next : Int) (h : objsB l next 0 = true) (key : ByteArray) : monoK l key = true := by
  unfold monoK
  rw [List.all_eq_true]
  intro b hb
  have hb := List.mem_range.1 hb
  cases hq : lowK l key b with
  | false => rfl
  | true =>
    rw [Bool.not_true, Bool.false_or, List.all_eq_true]
    intro a ha
    have ha := List.mem_range.1 ha
    rw [lowK_eq] at hq ⊢
    exact bl_trans _ _ _ (key_lt l next h ha hb) hq
def findZ : List S32 → ByteArray → Nat → Int
  | [], _, _ => -1
  | x :: r, key, i => if x.f0.toList = key.toList then (i : Int) else findZ r key (i + 1)
theorem findZ_cons (x : S32) (r : List S32) (key : ByteArray) (i : Nat) : findZ (x :: r) key i = if x.f0.toList = key.toList then (i : Int) else findZ r key (i + 1) := rfl
theorem findZ_loop (l : List S32) (hl : l.length ≤ 1048576) (next : Int) (key : ByteArray) (d : Nat) : ∀ (k i : Nat), i ≤ l.length → l.length - i = d → d < k → spec_l01Find.l0 k key (i : Int) l next = some (findZ (l.drop i) key i) := by
  induction d with
  | zero =>
    intro k i hi hd hk
    obtain ⟨k, rfl⟩ : ∃ m, k = m + 1 := ⟨k - 1, by omega⟩
    obtain rfl : i = l.length := by omega
    simp only [spec_l01Find.l0]
    rw [if_neg (by omega), List.drop_length]
    rfl
  | succ d ih =>
    intro k i hi hd hk
    obtain ⟨k, rfl⟩ : ∃ m, k = m + 1 := ⟨k - 1, by omega⟩
    have hlt : i < l.length := by omega
    have hw : wrap64 ((i : Int) + 1) = ((i + 1 : Nat) : Int) := by unfold wrap64; omega
    simp only [spec_l01Find.l0]
    rw [if_pos (by omega), if_pos (by omega), rd32_at l i hlt, hw, ih k (i + 1) (by omega) (by omega) (by omega), List.drop_eq_getElem_cons hlt, findZ_cons]
    split <;> rfl
theorem findZ_spec (key : ByteArray) : ∀ (l : List S32) (i : Nat), (findZ l key i = -1 ∧ ∀ t, t < l.length → (l.getD t z32).f0.toList ≠ key.toList) ∨ ∃ t, t < l.length ∧ findZ l key i = ((i + t : Nat) : Int) ∧ (l.getD t z32).f0.toList = key.toList
  | [], i => .inl ⟨rfl, fun t ht => absurd ht (Nat.not_lt_zero _)⟩
  | x :: r, i => by
    rw [findZ_cons]
    by_cases h : x.f0.toList = key.toList
    · exact .inr ⟨0, by simp, by rw [if_pos h]; rfl, by simpa using h⟩
    · rw [if_neg h]
      rcases findZ_spec key r (i + 1) with ⟨e, ha⟩ | ⟨t, ht, e, hk⟩
      · refine .inl ⟨e, fun t ht => ?_⟩
        cases t with
        | zero => simpa using h
        | succ t => simpa using ha t (by simpa using ht)
      · exact .inr ⟨t + 1, by simpa using ht, by rw [e]; congr 1; omega, by simpa using hk⟩
/-- where a key stands: both searches tell the same -/
theorem find_both (l : List S32) (next : Int) (h : objsB l next 0 = true) (key : ByteArray) :
    (hasK l key = true ∧ findZ l key 0 = (cntK l key : Nat) ∧ cntK l key < l.length ∧ (l.getD (cntK l key) z32).f0.toList = key.toList) ∨ (hasK l key = false ∧ findZ l key 0 = -1) := by
  have hc0 : ∀ t, decide (cmpK key (l.getD t z32) < 0) = lowK l key t := fun t => rfl
  rcases findZ_spec key l 0 with ⟨e, ha⟩ | ⟨t, ht, e, hk⟩
  · refine .inr ⟨?_, e⟩
    unfold hasK
    by_cases hlt : cntK l key < l.length
    · rw [decide_eq_true hlt, Bool.true_and]
      refine decide_eq_false fun hz => ?_
      unfold cmpK at hz
      exact ha _ hlt (by rw [ByteArray.toList_eq, ByteArray.toList_eq]; exact (cmp_eq _ _).1 hz)
    · rw [decide_eq_false hlt, Bool.false_and]
  · have hcnt : cntK l key = t := countP_cut _ z32 l t (Nat.le_of_lt ht) (fun s hs => by
        rw [hc0, lowK_eq, ← hk]
        exact key_lt l next h hs ht) (fun s h1 h2 => by
        rw [hc0, lowK_eq, ← hk]
        rcases Nat.eq_or_lt_of_le h1 with rfl | h3
        · exact bl_irr _
        · have := key_lt l next h h3 h2
          cases hq : Op.bytesLess (l.getD s z32).f0.toList (l.getD t z32).f0.toList with
          | false => rfl
          | true =>
            have hz := bl_trans _ _ _ this hq
            rw [bl_irr] at hz
            cases hz)
    refine .inl ?_
    rw [hcnt]
    refine ⟨?_, by rw [e, Nat.zero_add], ht, hk⟩
    unfold hasK
    rw [hcnt, decide_eq_true ht, Bool.true_and]
    refine decide_eq_true ?_
    unfold cmpK
    rw [ByteArray.toList_eq, ByteArray.toList_eq] at hk
    exact (cmp_eq _ _).2 hk
theorem sfind_eq (l : List S32) (hl : l.length ≤ 1048576) (next : Int) (key : ByteArray) (k : Nat) (hk : l.length < k) : spec_l01Find.f k l next key = some (findZ l key 0) := by
  have := findZ_loop l hl next key l.length k 0 (by omega) (by omega) hk
  exact this
theorem ifind_eq (l : List S32) (hl : l.length ≤ 1048576) (next : Int) (h : objsB l next 0 = true) (key : ByteArray) : impl_Store_find.f l next key = some (((cntK l key : Nat) : Int), hasK l key) := by
  unfold impl_Store_find.f
  rw [if_pos ⟨by omega, monoK_of l next h key⟩]
theorem storeB_objs {l : List S32} {next : Int} (h : storeB l next = true) : objsB l next 0 = true := by
  unfold storeB at h
  exact (Bool.and_eq_true _ _ ▸ h : _ ∧ _).1
theorem storeB_len {l : List S32} {next : Int} (h : storeB l next = true) : l.length ≤ 300 ∧ 1 ≤ next ∧ next ≤ 1000000000 := by
  unfold storeB at h
  simp only [Bool.and_eq_true, decide_eq_true_eq] at h
  omega
theorem obj_ver {l : List S32} {next : Int} (h : objsB l next 0 = true) {i : Nat} (hi : i < l.length) : 1 ≤ (l.getD i z32).f1 := by
  have := ord_all l next h i hi
  unfold objB at this
  simp only [Bool.and_eq_true, decide_eq_true_eq] at this
  exact this.2.1.1
theorem rd148_cnt (l : List S32) (i : Nat) : rd_T32 l (i : Int) = l.getD i z32 := by unfold rd_T32; rw [Int.toNat_natCast]
theorem cut_ex (p : Nat → Bool) : ∀ n : Nat, ∃ t, t ≤ n ∧ (∀ s, s < t → p s = true) ∧ (t = n ∨ p t = false)
  | 0 => ⟨0, Nat.le_refl 0, fun s hs => absurd hs (Nat.not_lt_zero s), .inl rfl⟩
  | n + 1 => by
    obtain ⟨t, h1, h2, h3⟩ := cut_ex p n
    rcases h3 with rfl | h3
    · cases hp : p t with
      | true => exact ⟨t + 1, Nat.le_refl _, fun s hs => by rcases Nat.lt_or_ge s t with h | h; exact h2 s h; (obtain rfl : s = t := by omega); exact hp, .inl rfl⟩
      | false => exact ⟨t, Nat.le_succ t, h2, .inr hp⟩
    · exact ⟨t, Nat.le_succ_of_le h1, h2, .inr h3⟩
/-- the keys ahead of a key's place are less, the others are not -/
theorem cnt_cut (l : List S32) (next : Int) (h : objsB l next 0 = true) (key : ByteArray) :
    cntK l key ≤ l.length ∧ (∀ s, s < cntK l key → Op.bytesLess (l.getD s z32).f0.toList key.toList = true) ∧ (∀ s, cntK l key ≤ s → s < l.length → Op.bytesLess (l.getD s z32).f0.toList key.toList = false) := by
  obtain ⟨t, h1, h2, h3⟩ := cut_ex (fun i => lowK l key i) l.length
  have h4 : ∀ s, t ≤ s → s < l.length → lowK l key s = false := fun s hs hsl => by
    rcases h3 with rfl | h3
    · omega
    · cases hq : lowK l key s with
      | false => rfl
      | true =>
        have := monoK_at (monoK_of l next h key) hs hsl hq
        rw [h3] at this
        cases this
  have hc : cntK l key = t := countP_cut _ z32 l t h1 h2 h4
  rw [hc]
  exact ⟨h1, fun s hs => by rw [← lowK_eq]; exact h2 s hs, fun s a b => by rw [← lowK_eq]; exact h4 s a b⟩
/-- where a key stands, and where it does not -/
theorem find_put (l : List S32) (next : Int) (h : objsB l next 0 = true) (key : ByteArray) :
    (hasK l key = true ∧ findZ l key 0 = (cntK l key : Nat) ∧ cntK l key < l.length ∧ (l.getD (cntK l key) z32).f0.toList = key.toList) ∨ (hasK l key = false ∧ findZ l key 0 = -1 ∧ (cntK l key < l.length → (l.getD (cntK l key) z32).f0.toList ≠ key.toList)) := by
  rcases find_both l next h key with a | ⟨a1, a2⟩
  · exact .inl a
  · refine .inr ⟨a1, a2, fun hlt e => ?_⟩
    rcases findZ_spec key l 0 with ⟨_, ha⟩ | ⟨t, _, e2, _⟩
    · exact ha _ hlt e
    · rw [a2] at e2
      omega
/-- an object in its place -/
def setR (l : List S32) (next : Int) (key data : ByteArray) : List S32 := if hasK l key = true then l.set (cntK l key) ⟨key, next, data⟩ else l.take (cntK l key) ++ ⟨key, next, data⟩ :: l.drop (cntK l key)
theorem setR_len (l : List S32) (hl : l.length ≤ 1048576) (next : Int) (h : objsB l next 0 = true) (key data : ByteArray) : (setR l next key data).length ≤ l.length + 1 := by
  have := (cnt_cut l next h key).1
  unfold setR
  split
  · simp
  · simp
    omega
theorem set_loop (l : List S32) (hl : l.length ≤ 1048576) (next : Int) (h : objsB l next 0 = true) (hn : 1 ≤ next ∧ next ≤ 1000000000) (key data : ByteArray) (d : Nat) : ∀ (k i : Nat), i ≤ cntK l key → cntK l key - i = d → d < k → spec_l01Set.l0 k key data (i : Int) l next = some (setR l next key data, wrap64 (next + 1)) := by
  obtain ⟨hcl, hlow, hhigh⟩ := cnt_cut l next h key
  induction d with
  | zero =>
    intro k i hi hd hk
    obtain ⟨k, rfl⟩ : ∃ m, k = m + 1 := ⟨k - 1, by omega⟩
    obtain rfl : i = cntK l key := by omega
    have hput := find_put l next h key
    have p0 : (0 : Int) ≤ ((cntK l key : Nat) : Int) := by omega
    have p1 : ((cntK l key : Nat) : Int) ≤ (l.length : Int) := by omega
    have hw : wrap64 (((cntK l key : Nat) : Int) + 1) = ((cntK l key + 1 : Nat) : Int) := by unfold wrap64; omega
    have ll : ((cntK l key : Nat) : Int).toNat = cntK l key := Int.toNat_natCast _
    have ll1 : ((cntK l key + 1 : Nat) : Int).toNat = cntK l key + 1 := Int.toNat_natCast _
    have q1 : ([] : List S32).length + (l.take (cntK l key)).length < 3518437208883 := by simp; omega
    have q2 : (([] : List S32) ++ l.take (cntK l key)).length + [(⟨key, next, data⟩ : S32)].length < 3518437208883 := by simp; omega
    have q3 : ((([] : List S32) ++ l.take (cntK l key)) ++ [(⟨key, next, data⟩ : S32)]).length + (l.drop (cntK l key)).length < 3518437208883 := by simp; omega
    have q4 : ((([] : List S32) ++ l.take (cntK l key)) ++ [(⟨key, next, data⟩ : S32)]).length + (l.drop (cntK l key + 1)).length < 3518437208883 := by simp; omega
    simp only [spec_l01Set.l0, if_pos p0, if_pos p1, Option.bind_some, ll, hw, ll1]
    by_cases hlt : cntK l key < l.length
    · have hltz : ((cntK l key : Nat) : Int) < (l.length : Int) := by omega
      have p2 : (0 : Int) ≤ ((cntK l key + 1 : Nat) : Int) := by omega
      have p3 : ((cntK l key + 1 : Nat) : Int) ≤ (l.length : Int) := by omega
      rw [if_pos hltz, rd148_cnt, hhigh _ (Nat.le_refl _) hlt, if_neg (by decide)]
      rcases hput with ⟨a1, _, _, a4⟩ | ⟨a1, _, a3⟩
      · rw [if_pos a4, if_pos p2, if_pos p3, if_pos q1, if_pos q2, if_pos q4]
        unfold setR
        rw [if_pos a1, List.set_eq_take_append_cons_drop, if_pos hlt]
        simp
      · rw [if_neg (a3 hlt), if_pos q1, if_pos q2, if_pos q3]
        unfold setR
        rw [if_neg (by rw [a1]; decide)]
        simp
    · have hltz : ¬ ((cntK l key : Nat) : Int) < (l.length : Int) := by omega
      have a1 : hasK l key = false := by
        rcases hput with ⟨_, _, a3, _⟩ | ⟨a1, _⟩
        · exact absurd a3 hlt
        · exact a1
      rw [if_neg hltz, if_pos q1, if_pos q2, if_pos q3]
      unfold setR
      rw [if_neg (by rw [a1]; decide)]
      simp
  | succ d ih =>
    intro k i hi hd hk
    obtain ⟨k, rfl⟩ : ∃ m, k = m + 1 := ⟨k - 1, by omega⟩
    have hlt : i < l.length := by omega
    have hw : wrap64 ((i : Int) + 1) = ((i + 1 : Nat) : Int) := by unfold wrap64; omega
    simp only [spec_l01Set.l0]
    rw [if_pos (by omega), if_pos (by omega), rd148_cnt, if_pos (hlow i (by omega)), hw]
    exact ih k (i + 1) (by omega) (by omega) (by omega)
theorem sset_eq (l : List S32) (hl : l.length ≤ 1048576) (next : Int) (h : objsB l next 0 = true) (hn : 1 ≤ next ∧ next ≤ 1000000000) (key data : ByteArray) (k : Nat) (hk : l.length < k) : spec_l01Set.f k l next key data = some (setR l next key data, wrap64 (next + 1)) := by
  have := (cnt_cut l next h key).1
  exact set_loop l hl next h hn key data (cntK l key) k 0 (by omega) (by omega) (by omega)
/-- what room there is -/
def roomC (l : List S32) (next : Int) (key data : ByteArray) : Int := if (data.size : Int) > 600 then 8 else if (hasK l key = false ∧ (l.length : Int) = 300) ∨ next = 1000000000 then 7 else 0
theorem sroom_eq (l : List S32) (hl : l.length ≤ 1048576) (next : Int) (h : objsB l next 0 = true) (key data : ByteArray) (k : Nat) (hk : l.length < k) : spec_l01Room.f k l next key data = some (roomC l next key data) := by
  unfold spec_l01Room.f roomC
  rw [sfind_eq l hl next key k hk]
  by_cases c : (data.size : Int) > 600
  · rw [if_pos c, if_pos c]
  · rw [if_neg c, if_neg c, Option.bind_some]
    rcases find_put l next h key with ⟨a1, a2, _⟩ | ⟨a1, a2, _⟩
    · rw [a2, a1, if_neg (by omega)]
      by_cases e : next = 1000000000 <;> simp [e]
    · rw [a2, a1, if_pos (by omega)]
      by_cases e : next = 1000000000 <;> by_cases e2 : (l.length : Int) = 300 <;> simp [e, e2]
theorem iput_eq (l : List S32) (hl : l.length ≤ 300) (next : Int) (h : objsB l next 0 = true) (hn : 1 ≤ next ∧ next ≤ 1000000000) (key data : ByteArray) (k : Nat) (hk : 5 < k) :
    impl_Store_put.f k l next key data = some (if roomC l next key data = 0 then (setR l next key data, wrap64 (next + 1), next, 0) else (l, next, 0, roomC l next key data)) := by
  have f2 : ∀ b1 b2 c1 c2, impl_first.f k [anyB b1, anyI c1, anyB b2, anyI c2] = some (if b1 = true then c1 else if b2 = true then c2 else 0) := by
    obtain ⟨m, rfl⟩ : ∃ m, k = m + 3 := ⟨k - 3, by omega⟩
    exact first2 m
  have hcl := (cnt_cut l next h key).1
  have key_ : ∀ t, impl_Store_put.j0 k key data ((cntK l key : Nat) : Int) (hasK l key) t l next = some (if t = 0 then (setR l next key data, wrap64 (next + 1), next, 0) else (l, next, 0, t)) := by
    intro t
    obtain ⟨m, rfl⟩ : ∃ m, k = m + 1 := ⟨k - 1, by omega⟩
    simp only [impl_Store_put.j0]
    by_cases ht : t = 0
    · have q0 : ([] : List S32).length + l.length < 3518437208883 := by simp; omega
      have hcop : impl_Store_copied.f l next = some (l, next) := by
        first | unfold impl_Store_copied.f impl_Object.f | unfold impl_Store_copied.f impl_Object_59.f | unfold impl_Store_copied.f impl_Object_58.f
        simp only [Option.bind_some, if_pos q0, List.nil_append]
      rw [if_pos ht, if_pos ht, hcop, Option.bind_some]
      cases hh : hasK l key with
      | true =>
        have hlt : cntK l key < l.length := by
          unfold hasK at hh
          simp only [Bool.and_eq_true, decide_eq_true_eq] at hh
          exact hh.1
        simp only [if_true]
        rw [if_pos (by omega), if_pos (by omega), Int.toNat_natCast]
        unfold setR
        rw [if_pos hh]
      | false =>
        simp only [Bool.false_eq_true, if_false]
        rw [if_pos ⟨by omega, by omega, by omega⟩, Int.toNat_natCast]
        unfold setR
        rw [if_neg (by rw [hh]; decide)]
    · rw [if_neg ht, if_neg ht]
  unfold impl_Store_put.f
  rw [ifind_eq l (by omega) next h key]
  simp only [Option.bind_some, f2, key_]
  unfold roomC
  by_cases c : (data.size : Int) > 600
  · cases hh : hasK l key <;> by_cases e2 : (l.length : Int) = 300 <;> simp [c, e2]
  · cases hh : hasK l key <;> by_cases e2 : (l.length : Int) = 300 <;> by_cases e : next = 1000000000 <;> simp [c, e2, e]
theorem sown_eq (l : List S32) (hl : l.length ≤ 2000000) (next : Int) : spec_l01Own.f l next = some (l, next) := by
  have q0 : ([] : List S32).length + l.length < 3518437208883 := by simp; omega
  unfold spec_l01Own.f
  simp only [Option.bind_some, if_pos q0, List.nil_append]
theorem icop_eq (l : List S32) (hl : l.length ≤ 2000000) (next : Int) : impl_Store_copied.f l next = some (l, next) := by
  have q0 : ([] : List S32).length + l.length < 3518437208883 := by simp; omega
  first | unfold impl_Store_copied.f impl_Object.f | unfold impl_Store_copied.f impl_Object_59.f | unfold impl_Store_copied.f impl_Object_58.f
  simp only [Option.bind_some, if_pos q0, List.nil_append]
def putR (l : List S32) (next : Int) (key data : ByteArray) : List S32 × Int × Int × Int :=
  if (key.size : Int) > 65536 ∨ (data.size : Int) > 65536 then ([], 0, 0, 2) else if storeB l next = true then (if kOK key = true then (if hasK l key = true then (l, next, 0, 9) else if roomC l next key data = 0 then (setR l next key data, wrap64 (next + 1), next, 0) else (l, next, 0, roomC l next key data)) else ([], 0, 0, 19)) else ([], 0, 0, 1)
theorem putA_same (l : List S32) (hl : l.length ≤ 1048576) (hs : ∀ x ∈ l, x.f0.size ≤ 140737488351232) (next : Int) (key data : ByteArray) (hkey : key.size ≤ 140737488351232) (k : Nat) (hk : l.length * (l.length + 5) + 140737488351232 + 320 < k) :
    spec_PutAbsent.f k l next key data = some (putR l next key data) ∧ impl_PutAbsent.f k l next key data = some (putR l next key data) := by
  obtain ⟨h1, h2⟩ := store_same l hl 140737488351232 (by omega) hs next k hk
  obtain ⟨g1, g2⟩ := keyOK_eq key hkey k (by omega)
  have f2 : ∀ b1 b2 c1 c2, impl_first.f k [anyB b1, anyI c1, anyB b2, anyI c2] = some (if b1 = true then c1 else if b2 = true then c2 else 0) := by
    obtain ⟨m, rfl⟩ : ∃ m, k = m + 3 := ⟨k - 3, by omega⟩
    exact first2 m
  have hlk : l.length < k := by
    have : l.length * 1 ≤ l.length * (l.length + 5) := Nat.mul_le_mul_left _ (by omega)
    omega
  unfold spec_PutAbsent.f impl_PutAbsent.f spec_l01Ask.f impl_storeCode.f impl_isLong.f shortB putR
  simp only [h1, h2, g1, g2, f2, Option.bind_some, List.any_cons, List.any_nil, Bool.or_false]
  by_cases hb : (key.size : Int) > 65536
  · have e : (!(decide ((key.size : Int) ≤ 65536))) = true := by rw [decide_eq_false (by omega)]; rfl
    rw [e, if_pos hb, if_pos (Or.inl hb)]
    exact ⟨rfl, by simp⟩
  · have e : (!(decide ((key.size : Int) ≤ 65536))) = false := by rw [decide_eq_true (by omega)]; rfl
    by_cases hd : (data.size : Int) > 65536
    · have e2 : (!(decide ((data.size : Int) ≤ 65536))) = true := by rw [decide_eq_false (by omega)]; rfl
      rw [e, e2, if_neg hb, if_pos hd, if_pos (Or.inr hd)]
      exact ⟨rfl, by simp⟩
    · have e2 : (!(decide ((data.size : Int) ≤ 65536))) = false := by rw [decide_eq_true (by omega)]; rfl
      rw [e, e2, if_neg hb, if_neg hd, if_neg (by omega)]
      have hb' : ¬ 65536 < (key.size : Int) := by omega
      have hd' : (data.size : Int) ≤ 65536 := by omega
      cases hst : storeB l next with
      | false => exact ⟨by simp [hb', hd'], by simp [hb', hd']⟩
      | true =>
        cases hko : kOK key with
        | false => exact ⟨by simp [hb', hd'], by simp [hb', hd']⟩
        | true =>
          have ho := storeB_objs hst
          obtain ⟨hn3, hn1, hn2⟩ := storeB_len hst
          have hsl := setR_len l hl next ho key data
          have hso := sown_eq (setR l next key data) (by omega) (wrap64 (next + 1))
          have hsc := icop_eq (setR l next key data) (by omega) (wrap64 (next + 1))
          have hlo := sown_eq l (by omega) next
          have hlc := icop_eq l (by omega) next
          have hput := iput_eq l hn3 next ho ⟨hn1, hn2⟩ key data k (by omega)
          have hroom := sroom_eq l hl next ho key data k hlk
          have hset := sset_eq l hl next ho ⟨hn1, hn2⟩ key data k hlk
          unfold spec_l01Absent.f impl_Store_putAbsent.f
          rw [sfind_eq l hl next key k hlk, ifind_eq l hl next ho key, hput, hroom, hset]
          rcases find_put l next ho key with ⟨a1, a2, _⟩ | ⟨a1, a2, _⟩
          · rw [a1, a2]
            exact ⟨by simp [hb', hd', hlo], by simp [hb', hd', hlc]⟩
          · rw [a1, a2]
            by_cases hr : roomC l next key data = 0
            · exact ⟨by simp [hb', hd', hr, hso], by simp [hb', hd', hr, hsc]⟩
            · exact ⟨by simp [hb', hd', hr, hlo] <;> (intro h_; omega), by simp [hb', hd', hr, hlc] <;> (intro h_; omega)⟩
theorem putR_len (l : List S32) (hl : l.length ≤ 1048576) (next : Int) (key data : ByteArray) : (putR l next key data).1.length ≤ 301 := by
  unfold putR
  cases hst : storeB l next with
  | false =>
    split <;> simp
  | true =>
    have h1 := setR_len l hl next (storeB_objs hst) key data
    have h2 := (storeB_len hst).1
    have h3 : (setR l next key data).length ≤ 301 := by omega
    have h4 : l.length ≤ 301 := by omega
    repeat' split
    all_goals first | exact h3 | exact h4 | (simp; done)
theorem rd148_nat (l : List S32) (i : Nat) (h : i < l.length) : rd_T32 l (i : Int) = l[i] := by
  unfold rd_T32
  rw [Int.toNat_natCast, List.getD_eq_getElem?_getD, List.getElem?_eq_getElem h]
  rfl
/-- an object into its place, as the reference sets it -/
def setL (key : ByteArray) (next : Int) (data : ByteArray) : List S32 → List S32
  | [] => [⟨key, next, data⟩]
  | x :: r => if Op.bytesLess x.f0.toList key.toList = true then x :: setL key next data r else if x.f0.toList = key.toList then ⟨key, next, data⟩ :: r else ⟨key, next, data⟩ :: x :: r
theorem setL_end (l : List S32) (hl : l.length ≤ 1048576) (next : Int) (key data : ByteArray) (k : Nat) : spec_l01Set.l0 (k + 1) key data (l.length : Int) l next = some (l ++ [⟨key, next, data⟩], wrap64 (next + 1)) := by
  have q1 : ¬ ((l.length : Int) < (l.length : Int)) := by omega
  have q2 : (0 : Int) ≤ (l.length : Int) := by omega
  have q3 : (l.length : Int) ≤ (l.length : Int) := Int.le_refl _
  have q4 : ([] : List S32).length + l.length < 3518437208883 := by rw [List.length_nil]; omega
  have q5 : l.length + [(⟨key, next, data⟩ : S32)].length < 3518437208883 := by rw [List.length_singleton]; omega
  have q6 : (l ++ [(⟨key, next, data⟩ : S32)]).length + ([] : List S32).length < 3518437208883 := by rw [List.length_append, List.length_singleton, List.length_nil]; omega
  rw [spec_l01Set.l0, if_neg q1, if_pos q2, if_pos q3, Option.bind_some, Int.toNat_natCast, List.drop_length, Option.bind_some, Option.bind_some, List.take_length, if_pos q4, Option.bind_some, List.nil_append, Option.bind_some, if_pos q5, Option.bind_some, if_pos q6, List.append_nil]
theorem setL_here (l : List S32) (hl : l.length ≤ 1048576) (next : Int) (key data : ByteArray) (k i : Nat) (hlt : i < l.length) (h : Op.bytesLess l[i].f0.toList key.toList ≠ true) : spec_l01Set.l0 (k + 1) key data (i : Int) l next = some (l.take i ++ (if l[i].f0.toList = key.toList then ⟨key, next, data⟩ :: l.drop (i + 1) else ⟨key, next, data⟩ :: l.drop i), wrap64 (next + 1)) := by
  have hw : wrap64 ((i : Int) + 1) = ((i + 1 : Nat) : Int) := by unfold wrap64; omega
  have q1 : (i : Int) < (l.length : Int) := by omega
  have q2 : (0 : Int) ≤ (i : Int) := by omega
  have q3 : (i : Int) ≤ (l.length : Int) := by omega
  have q7 : (0 : Int) ≤ ((i + 1 : Nat) : Int) := by omega
  have q8 : ((i + 1 : Nat) : Int) ≤ (l.length : Int) := by omega
  have r0 : (l.take i).length = i := by rw [List.length_take, Nat.min_eq_left (by omega)]
  have r1 : ([] : List S32).length + (l.take i).length < 3518437208883 := by rw [List.length_nil, r0]; omega
  have r2 : (l.take i).length + [(⟨key, next, data⟩ : S32)].length < 3518437208883 := by rw [List.length_singleton, r0]; omega
  have r3 : (l.take i ++ [(⟨key, next, data⟩ : S32)]).length + (l.drop (i + 1)).length < 3518437208883 := by rw [List.length_append, List.length_singleton, r0, List.length_drop]; omega
  have r4 : (l.take i ++ [(⟨key, next, data⟩ : S32)]).length + (l.drop i).length < 3518437208883 := by rw [List.length_append, List.length_singleton, r0, List.length_drop]; omega
  rw [spec_l01Set.l0, if_pos q1, if_pos q2, rd148_nat l i hlt, if_neg h, if_pos q3, Option.bind_some, hw]
  by_cases c2 : l[i].f0.toList = key.toList
  · rw [if_pos c2, if_pos c2, if_pos q7, if_pos q8, Option.bind_some, Option.bind_some, Option.bind_some, Int.toNat_natCast, Int.toNat_natCast, if_pos r1, Option.bind_some, List.nil_append, Option.bind_some, if_pos r2, Option.bind_some, if_pos r3, List.append_assoc]
    rfl
  · rw [if_neg c2, if_neg c2, Option.bind_some, Option.bind_some, Int.toNat_natCast, if_pos r1, Option.bind_some, List.nil_append, Option.bind_some, if_pos r2, Option.bind_some, if_pos r4, List.append_assoc]
    rfl
theorem setL_loop (l : List S32) (hl : l.length ≤ 1048576) (next : Int) (key data : ByteArray) (d : Nat) : ∀ (k i : Nat), i ≤ l.length → l.length - i = d → d < k → spec_l01Set.l0 k key data (i : Int) l next = some (l.take i ++ setL key next data (l.drop i), wrap64 (next + 1)) := by
  induction d with
  | zero =>
    intro k i hi hd hk
    obtain ⟨k, rfl⟩ : ∃ m, k = m + 1 := ⟨k - 1, by omega⟩
    obtain rfl : i = l.length := by omega
    rw [setL_end l hl, List.take_length, List.drop_length]
    rfl
  | succ d ih =>
    intro k i hi hd hk
    obtain ⟨k, rfl⟩ : ∃ m, k = m + 1 := ⟨k - 1, by omega⟩
    have hlt : i < l.length := by omega
    have hset : setL key next data (l.drop i) = if Op.bytesLess l[i].f0.toList key.toList = true then l[i] :: setL key next data (l.drop (i + 1)) else if l[i].f0.toList = key.toList then ⟨key, next, data⟩ :: l.drop (i + 1) else ⟨key, next, data⟩ :: l.drop i := by
      rw [List.drop_eq_getElem_cons hlt]; rfl
    rw [hset]
    by_cases c1 : Op.bytesLess l[i].f0.toList key.toList = true
    · have hw : wrap64 ((i : Int) + 1) = ((i + 1 : Nat) : Int) := by unfold wrap64; omega
      rw [spec_l01Set.l0, if_pos (by omega), if_pos (by omega), rd148_nat l i hlt, if_pos c1, if_pos c1, hw, ih k (i + 1) (by omega) (by omega) (by omega), List.take_succ_eq_append_getElem hlt, List.append_assoc]
      rfl
    · rw [if_neg c1, setL_here l hl next key data k i hlt c1]
theorem setL_mem (key : ByteArray) (next : Int) (data : ByteArray) : ∀ (l : List S32) (y : S32), y ∈ setL key next data l → y = ⟨key, next, data⟩ ∨ y ∈ l
  | [], y, h => by simp [setL] at h; exact .inl h
  | x :: r, y, h => by
    unfold setL at h
    split at h
    · rcases List.mem_cons.1 h with rfl | h
      · exact .inr (List.mem_cons_self ..)
      · rcases setL_mem key next data r y h with h | h
        · exact .inl h
        · exact .inr (List.mem_cons_of_mem _ h)
    · split at h
      · rcases List.mem_cons.1 h with rfl | h
        · exact .inl rfl
        · exact .inr (List.mem_cons_of_mem _ h)
      · rcases List.mem_cons.1 h with rfl | h
        · exact .inl rfl
        · exact .inr h
theorem setL_len (key : ByteArray) (next : Int) (data : ByteArray) : ∀ l : List S32, (setL key next data l).length ≤ l.length + 1
  | [] => by simp [setL]
  | x :: r => by
    have ih := setL_len key next data r
    unfold setL
    split
    · simp; omega
    · split <;> simp
def lessK (x y : S32) : Prop := Op.bytesLess x.f0.toList y.f0.toList = true
theorem setL_sorted (key : ByteArray) (next : Int) (data : ByteArray) : ∀ l : List S32, l.Pairwise lessK → (setL key next data l).Pairwise lessK
  | [], _ => List.pairwise_singleton _ _
  | x :: r, h => by
    obtain ⟨h1, h2⟩ := List.pairwise_cons.1 h
    have ih := setL_sorted key next data r h2
    unfold setL
    split
    · rename_i hx
      refine List.pairwise_cons.2 ⟨fun y hy => ?_, ih⟩
      rcases setL_mem key next data r y hy with rfl | hy
      · exact hx
      · exact h1 y hy
    · rename_i hx
      split
      · rename_i he
        refine List.pairwise_cons.2 ⟨fun y hy => ?_, h2⟩
        have := h1 y hy
        unfold lessK at this ⊢
        rw [he] at this
        exact this
      · rename_i he
        have hlt : Op.bytesLess key.toList x.f0.toList = true := by
          rcases bl_total key.toList x.f0.toList with e | e | e
          · exact absurd e.symm he
          · exact e
          · exact absurd e hx
        refine List.pairwise_cons.2 ⟨fun y hy => ?_, h⟩
        rcases List.mem_cons.1 hy with rfl | hy
        · exact hlt
        · exact bl_trans _ _ _ hlt (h1 y hy)
theorem setL_vers (key : ByteArray) (next : Int) (data : ByteArray) : ∀ l : List S32, (∀ x ∈ l, x.f1 < next) → l.Pairwise (fun x y => x.f1 ≠ y.f1) → (setL key next data l).Pairwise (fun x y => x.f1 ≠ y.f1)
  | [], _, _ => List.pairwise_singleton _ _
  | x :: r, hb, h => by
    obtain ⟨h1, h2⟩ := List.pairwise_cons.1 h
    have hr : ∀ y ∈ r, y.f1 < next := fun y hy => hb y (List.mem_cons_of_mem _ hy)
    have ih := setL_vers key next data r hr h2
    have hx := hb x (List.mem_cons_self ..)
    unfold setL
    split
    · refine List.pairwise_cons.2 ⟨fun y hy => ?_, ih⟩
      rcases setL_mem key next data r y hy with rfl | hy
      · exact fun e => by have e' : x.f1 = next := e; omega
      · exact h1 y hy
    · split
      · refine List.pairwise_cons.2 ⟨fun y hy e => ?_, h2⟩
        have := hr y hy
        have e' : next = y.f1 := e
        omega
      · refine List.pairwise_cons.2 ⟨fun y hy e => ?_, h⟩
        have := hb y hy
        have e' : next = y.f1 := e
        omega
section
variable {Q : ByteArray → Bool}
/-- a small store that is right -/
structure Inv (Q : ByteArray → Bool) (l : List S32) (next n : Int) : Prop where
  srt : l.Pairwise lessK
  ver : l.Pairwise (fun x y => x.f1 ≠ y.f1)
  obj : ∀ x ∈ l, (kOK x.f0 = true ∧ Q x.f0 = true) ∧ x.f0.size ≤ 30 ∧ 1 ≤ x.f1 ∧ x.f1 < next ∧ x.f2.size ≤ 30
  lo : 1 ≤ next
  hi : next ≤ n
  len : (l.length : Int) < n
  big : n ≤ 40
theorem Inv.more {l : List S32} {next n m : Int} (h : Inv Q l next n) (hm : n ≤ m) (hb : m ≤ 40) : Inv Q l next m := ⟨h.srt, h.ver, h.obj, h.lo, Int.le_trans h.hi hm, Int.lt_of_lt_of_le h.len hm, hb⟩
theorem Inv.set {l : List S32} {next n : Int} (h : Inv Q l next n) (hn : n + 1 ≤ 40) (key data : ByteArray) (hk : kOK key = true ∧ Q key = true) (hs : key.size ≤ 30) (hd : data.size ≤ 30) : Inv Q (setL key next data l) (next + 1) (n + 1) := by
  have h1 := setL_len key next data l
  have hlo := h.lo
  have hhi := h.hi
  have hlen := h.len
  refine ⟨setL_sorted key next data l h.srt, setL_vers key next data l (fun x hx => (h.obj x hx).2.2.2.1) h.ver, fun y hy => ?_, by omega, by omega, by omega, hn⟩
  rcases setL_mem key next data l y hy with rfl | hy
  · exact ⟨hk, hs, hlo, by show next < next + 1; omega, hd⟩
  · obtain ⟨a, b, c, d, e⟩ := h.obj y hy
    exact ⟨a, b, c, by omega, e⟩
theorem Inv.sub {l m : List S32} {next n : Int} (h : Inv Q l next n) (s : m.Sublist l) : Inv Q m next n :=
  ⟨h.srt.sublist s, h.ver.sublist s, fun x hx => h.obj x (s.subset hx), h.lo, h.hi, by have := s.length_le; have := h.len; omega, h.big⟩
theorem Inv.l41 {l : List S32} {next n : Int} (h : Inv Q l next n) : l.length ≤ 40 := by have := h.len; have := h.big; omega
theorem Inv.objs {l : List S32} {next n : Int} (h : Inv Q l next n) : objsB l next 0 = true := by
  unfold objsB
  rw [List.drop_zero, List.all_eq_true]
  intro j hj
  have hj := List.mem_range.1 hj
  have e := getD_at l j hj
  obtain ⟨a, b, c, d, f⟩ := h.obj l[j] (List.getElem_mem hj)
  have hb := h.big
  have hhi := h.hi
  have hw : wrap64 (next - 1) = next - 1 := by have := h.lo; unfold wrap64; omega
  have ho : ordB l j = true := by
    unfold ordB
    by_cases h0 : j = 0
    · simp [h0]
    · have := List.pairwise_iff_getElem.1 h.srt (j - 1) j (by omega) hj (by omega)
      rw [e, getD_at l (j - 1) (by omega)]
      rw [show Op.bytesLess l[j - 1].f0.toList l[j].f0.toList = true from this]
      simp
  have hdu : dupB l j (l[j]).f1 = false := by
    unfold dupB
    rw [List.any_eq_false]
    intro x hx
    rw [decide_eq_true_eq]
    obtain ⟨i, hi, rfl⟩ := List.mem_iff_getElem.1 hx
    rw [List.getElem_take]
    have hij : i < j := by simp at hi; omega
    exact List.pairwise_iff_getElem.1 h.ver i j (by omega) hj hij
  unfold objB
  rw [e, a.1, ho, hdu, hw]
  simp only [Bool.true_and, Bool.not_false, Bool.and_true, Bool.and_eq_true, decide_eq_true_eq]
  omega
theorem Inv.store {l : List S32} {next n : Int} (h : Inv Q l next n) : storeB l next = true := by
  unfold storeB
  rw [h.objs]
  have := h.len
  have := h.big
  have := h.lo
  have := h.hi
  simp only [Bool.true_and, Bool.and_eq_true, decide_eq_true_eq]
  omega
theorem inv_new : Inv Q [] 1 2 := ⟨.nil, .nil, by simp, by decide, by decide, by decide, by decide⟩
theorem findZ_in (key : ByteArray) : ∀ (l : List S32) (i : Nat), findZ l key i = -1 ∨ ∃ t, t < l.length ∧ findZ l key i = ((i + t : Nat) : Int)
  | [], i => .inl rfl
  | x :: r, i => by
    show (if _ then _ else _) = _ ∨ _
    by_cases c : x.f0.toList = key.toList
    · refine .inr ⟨0, by simp, ?_⟩
      show (if _ then _ else _) = _
      rw [if_pos c]; rfl
    · rw [if_neg c]
      rcases findZ_in key r (i + 1) with h | ⟨t, h1, h2⟩
      · exact .inl h
      · refine .inr ⟨t + 1, by simp; omega, ?_⟩
        show (if _ then _ else _) = _
        rw [if_neg c, h2]; omega
theorem zfind_eq (l : List S32) (hl : l.length ≤ 1048576) (next : Int) (key : ByteArray) (k : Nat) (hk : l.length < k) : ∃ z, spec_l01Find.f k l next key = some z ∧ (z = -1 ∨ ∃ t : Nat, t < l.length ∧ z = (t : Int)) := by
  have := findZ_loop l hl next key l.length k 0 (by omega) (by omega) hk
  refine ⟨_, this, ?_⟩
  rcases findZ_in key (l.drop 0) 0 with h | ⟨t, h1, h2⟩
  · exact .inl h
  · rw [List.drop_zero] at h1
    exact .inr ⟨t, h1, by rw [h2]; simp⟩
theorem zroom_eq {l : List S32} {next n : Int} (h : Inv Q l next n) (key data : ByteArray) (hd : data.size ≤ 30) (k : Nat) (hk : 60 < k) : spec_l01Room.f k l next key data = some 0 := by
  obtain ⟨z, hz, _⟩ := zfind_eq l (by have := h.l41; omega) next key k (by have := h.l41; omega)
  have := h.l41
  have := h.hi
  have := h.big
  unfold spec_l01Room.f
  rw [if_neg (by omega), hz, Option.bind_some]
  split
  · rw [if_neg (by omega), if_neg (by omega)]
  · rw [if_neg (by omega)]
theorem zset_eq {l : List S32} {next n : Int} (h : Inv Q l next n) (key data : ByteArray) (k : Nat) (hk : 60 < k) : spec_l01Set.f k l next key data = some (setL key next data l, next + 1) := by
  have := h.l41
  have := setL_loop l (by omega) next key data l.length k 0 (by omega) (by omega) (by omega)
  have hw : wrap64 (next + 1) = next + 1 := by have := h.lo; have := h.hi; have := h.big; unfold wrap64; omega
  rw [hw] at this
  exact this
theorem zabsent {l : List S32} {next n : Int} (h : Inv Q l next n) (hn : n + 1 ≤ 40) (key data : ByteArray) (hk : kOK key = true ∧ Q key = true) (hs : key.size ≤ 30) (hd : data.size ≤ 30) (k : Nat) (hk' : 60 < k) : ∃ l' next' c, spec_l01Absent.f k l next key data = some (l', next', c) ∧ Inv Q l' next' (n + 1) := by
  obtain ⟨z, hz, _⟩ := zfind_eq l (by have := h.l41; omega) next key k (by have := h.l41; omega)
  unfold spec_l01Absent.f
  rw [hz, Option.bind_some]
  by_cases c : z ≥ 0
  · rw [if_pos c]; exact ⟨_, _, _, rfl, h.more (by omega) hn⟩
  · rw [if_neg c, zroom_eq h key data hd k hk', Option.bind_some, if_pos rfl, zset_eq h key data k hk', Option.bind_some]
    exact ⟨_, _, _, rfl, h.set hn key data hk hs hd⟩
theorem zget {l : List S32} {next n : Int} (h : Inv Q l next n) (key : ByteArray) (k : Nat) (hk : 60 < k) : ∃ d v, spec_l01Get.f k l next key = some (d, v) := by
  obtain ⟨z, hz, hz2⟩ := zfind_eq l (by have := h.l41; omega) next key k (by have := h.l41; omega)
  unfold spec_l01Get.f
  rw [hz, Option.bind_some]
  rcases hz2 with rfl | ⟨t, ht, rfl⟩
  · exact ⟨_, _, rfl⟩
  · rw [if_neg (by omega), if_pos (by omega), if_pos (by omega)]; exact ⟨_, _, rfl⟩
theorem zover {l : List S32} {next n : Int} (h : Inv Q l next n) (hn : n + 1 ≤ 40) (key : ByteArray) (ver : Int) (data : ByteArray) (hk : kOK key = true ∧ Q key = true) (hs : key.size ≤ 30) (hd : data.size ≤ 30) (k : Nat) (hk' : 60 < k) : ∃ l' next' c, spec_l01Over.f k l next key ver data = some (l', next', c) ∧ Inv Q l' next' (n + 1) := by
  obtain ⟨d, v, hg⟩ := zget h key k hk'
  unfold spec_l01Over.f
  rw [hg, Option.bind_some]
  dsimp only
  by_cases c : v = 0
  · rw [if_pos c]; exact ⟨_, _, _, rfl, h.more (by omega) hn⟩
  · rw [if_neg c]
    by_cases c2 : v = ver
    · rw [if_pos c2, zroom_eq h key data hd k hk', Option.bind_some, if_pos rfl, zset_eq h key data k hk', Option.bind_some]
      exact ⟨_, _, _, rfl, h.set hn key data hk hs hd⟩
    · rw [if_neg c2]; exact ⟨_, _, _, rfl, h.more (by omega) hn⟩
theorem zdelete {l : List S32} {next n : Int} (h : Inv Q l next n) (hn : n + 1 ≤ 40) (key : ByteArray) (ver : Int) (k : Nat) (hk' : 60 < k) : ∃ l' next' c, spec_l01Delete.f k l next key ver = some (l', next', c) ∧ Inv Q l' next' (n + 1) := by
  have h41 := h.l41
  obtain ⟨z, hz, hz2⟩ := zfind_eq l (by omega) next key k (by omega)
  unfold spec_l01Delete.f
  rw [hz, Option.bind_some]
  rcases hz2 with rfl | ⟨t, ht, rfl⟩
  · exact ⟨_, _, _, rfl, h.more (by omega) hn⟩
  · have hw : wrap64 ((t : Int) + 1) = ((t + 1 : Nat) : Int) := by unfold wrap64; omega
    rw [if_neg (by omega), if_pos (by omega), if_pos (by omega)]
    by_cases c : (rd_T32 l (t : Int)).f1 = ver
    · have q1 : ([] : List S32).length + (l.take t).length < 3518437208883 := by simp; omega
      have q2 : (l.take t).length + (l.drop (t + 1)).length < 3518437208883 := by simp; omega
      have q3 : (t : Int) ≤ (l.length : Int) := by omega
      have q4 : (0 : Int) ≤ ((t + 1 : Nat) : Int) := by omega
      have q5 : ((t + 1 : Nat) : Int) ≤ (l.length : Int) := by omega
      rw [if_pos c]
      simp only [Option.bind_some, if_pos q3, Int.toNat_natCast, if_pos q1, List.nil_append, hw, if_pos q4, if_pos q5, if_pos q2]
      refine ⟨_, _, _, rfl, (h.sub ?_).more (by omega) hn⟩
      have : (l.take t ++ l.drop (t + 1)).Sublist (l.take t ++ l.drop t) := List.Sublist.append (List.Sublist.refl _) (by rw [List.drop_eq_getElem_cons ht]; exact List.sublist_cons_self _ _)
      rwa [List.take_append_drop] at this
    · rw [if_neg c]; exact ⟨_, _, _, rfl, h.more (by omega) hn⟩
end
theorem strOfNums_size (xs : List Int) : (strOfNums xs).size = xs.length := by
  unfold strOfNums
  simp [ByteArray.size]
theorem some_loop {c : List Int} (hc : Bytes c) (m : Nat) (hm : m ≤ 30) : ∀ (d k : Nat) (out : List Int) (i : Nat) (p s : Int), d < k → i + d = m → out.length = i → 0 ≤ p → p + d ≤ 90000 → 0 ≤ s → s < 2147483648 →
    ∃ t s', spec_l00Src_some.l0 k (m : Int) out (i : Int) c p s = some (t, p + d, s') ∧ t.size ≤ 30 ∧ 0 ≤ s' ∧ s' < 2147483648
  | 0, k, out, i, p, s, hk, hi, ho, h4, h5, h6, h7 => by
    obtain ⟨k, rfl⟩ : ∃ m, k = m + 1 := ⟨k - 1, by omega⟩
    refine ⟨strOfNums out, s, ?_, by rw [strOfNums_size]; omega, h6, h7⟩
    simp only [spec_l00Src_some.l0]
    rw [if_neg (by omega)]
    simp
  | d + 1, k, out, i, p, s, hk, hi, ho, h4, h5, h6, h7 => by
    obtain ⟨k, rfl⟩ : ∃ m, k = m + 1 := ⟨k - 1, by omega⟩
    obtain ⟨v1, s1, e1, a1, b1, c1, d1⟩ := next_ok hc p s 26 h4 (by omega) h6 h7 (by decide) (by decide)
    have hw : wrap64 ((i : Int) + 1) = ((i + 1 : Nat) : Int) := by unfold wrap64; omega
    obtain ⟨t, s', hL, h8, h9, h10⟩ := some_loop hc m hm d k (out ++ [(wrap64 (97 + v1)) % 256]) (i + 1) (p + 1) s1 (by omega) (by omega) (by simp; omega) (by omega) (by omega) c1 d1
    refine ⟨t, s', ?_, h8, h9, h10⟩
    simp only [spec_l00Src_some.l0]
    rw [if_pos (by omega), e1, Option.bind_some]
    dsimp only
    rw [if_pos (by omega), hw, hL]
    congr 3
    omega
theorem some_ok {c : List Int} (hc : Bytes c) (k : Nat) (p s m : Int) (hk : 60 < k) (h0 : 0 ≤ m) (hm : m ≤ 30) (h4 : 0 ≤ p) (h5 : p ≤ 80000) (h6 : 0 ≤ s) (h7 : s < 2147483648) : ∃ t s', spec_l00Src_some.f k c p s m = some (t, p + m, s') ∧ t.size ≤ 30 ∧ 0 ≤ s' ∧ s' < 2147483648 := by
  obtain ⟨m, rfl⟩ : ∃ m' : Nat, m = (m' : Int) := ⟨m.toNat, by omega⟩
  exact some_loop hc m (by omega) m k [] 0 p s (by omega) (by omega) rfl h4 (by omega) h6 h7
theorem bt_lit (cs : List UInt8) (i : Nat) (h : i < cs.length) : bt ⟨cs.toArray⟩ (i : Int) = (cs[i].toNat : Int) := by
  unfold bt
  rw [dif_pos (show ((i : Int).toNat) < (⟨cs.toArray⟩ : ByteArray).size by simpa [ByteArray.size] using h)]
  rfl
theorem kOK_lit (cs : List UInt8) (h : (cs.all fun c => kb (c.toNat : Int)) = true) (h1 : 1 ≤ cs.length) (h2 : cs.length ≤ 30) : kOK ⟨cs.toArray⟩ = true := by
  have hs : (⟨cs.toArray⟩ : ByteArray).size = cs.length := by simp [ByteArray.size]
  unfold kOK kFrom
  rw [hs, Bool.and_eq_true, List.drop_zero]
  refine ⟨?_, by simp only [Bool.and_eq_true, decide_eq_true_eq]; omega⟩
  rw [List.all_eq_true]
  intro j hj
  have hj := List.mem_range.1 hj
  rw [bt_lit cs j hj]
  exact List.all_eq_true.1 h _ (List.getElem_mem hj)
/-- a key that is none of those that the law writes -/
def nM (s : ByteArray) : Bool := !(s.data.toList == [109, 47, 49]) && (!(s.data.toList == [109, 47, 50]) && !(s.data.toList == [109, 47, 51]))
theorem shortKey_ok {c : List Int} (hc : Bytes c) (p s : Int) (h4 : 0 ≤ p) (h5 : p ≤ 80000) (h6 : 0 ≤ s) (h7 : s < 2147483648) : ∃ t s', spec_l00Src_shortKey.f c p s = some (t, p + 1, s') ∧ (kOK t = true ∧ nM t = true) ∧ t.size ≤ 30 ∧ 0 ≤ s' ∧ s' < 2147483648 := by
  obtain ⟨v1, s1, e1, a1, b1, c1, d1⟩ := next_ok hc p s 5 h4 (by omega) h6 h7 (by decide) (by decide)
  unfold spec_l00Src_shortKey.f spec_l00Src_pick.f
  have hl : (([(⟨#[97, 47, 49]⟩ : ByteArray), (⟨#[97, 47, 50]⟩ : ByteArray), (⟨#[98, 47, 49]⟩ : ByteArray), (⟨#[98, 47, 49, 48]⟩ : ByteArray), (⟨#[108, 101, 97, 115, 101]⟩ : ByteArray)] : List ByteArray).length : Int) = 5 := rfl
  rw [hl, if_neg (by decide), e1, Option.bind_some]
  dsimp only
  rw [if_pos a1, if_pos b1, Option.bind_some]
  have hv : v1 = 0 ∨ v1 = 1 ∨ v1 = 2 ∨ v1 = 3 ∨ v1 = 4 := by omega
  have k1 : kOK (⟨#[97, 47, 49]⟩ : ByteArray) = true := kOK_lit [97, 47, 49] (by decide) (by decide) (by decide)
  have k2 : kOK (⟨#[97, 47, 50]⟩ : ByteArray) = true := kOK_lit [97, 47, 50] (by decide) (by decide) (by decide)
  have k3 : kOK (⟨#[98, 47, 49]⟩ : ByteArray) = true := kOK_lit [98, 47, 49] (by decide) (by decide) (by decide)
  have k4 : kOK (⟨#[98, 47, 49, 48]⟩ : ByteArray) = true := kOK_lit [98, 47, 49, 48] (by decide) (by decide) (by decide)
  have k5 : kOK (⟨#[108, 101, 97, 115, 101]⟩ : ByteArray) = true := kOK_lit [108, 101, 97, 115, 101] (by decide) (by decide) (by decide)
  have n1 : nM (⟨#[97, 47, 49]⟩ : ByteArray) = true := by decide
  have n2 : nM (⟨#[97, 47, 50]⟩ : ByteArray) = true := by decide
  have n3 : nM (⟨#[98, 47, 49]⟩ : ByteArray) = true := by decide
  have n4 : nM (⟨#[98, 47, 49, 48]⟩ : ByteArray) = true := by decide
  have n5 : nM (⟨#[108, 101, 97, 115, 101]⟩ : ByteArray) = true := by decide
  rcases hv with rfl | rfl | rfl | rfl | rfl
  · exact ⟨_, _, rfl, ⟨k1, n1⟩, by show (3 : Nat) ≤ 30; decide, c1, d1⟩
  · exact ⟨_, _, rfl, ⟨k2, n2⟩, by show (3 : Nat) ≤ 30; decide, c1, d1⟩
  · exact ⟨_, _, rfl, ⟨k3, n3⟩, by show (3 : Nat) ≤ 30; decide, c1, d1⟩
  · exact ⟨_, _, rfl, ⟨k4, n4⟩, by show (4 : Nat) ≤ 30; decide, c1, d1⟩
  · exact ⟨_, _, rfl, ⟨k5, n5⟩, by show (5 : Nat) ≤ 30; decide, c1, d1⟩
theorem plain_loop {c : List Int} (hc : Bytes c) : ∀ (d k : Nat) (l : List S32) (next n p s : Int), d + 60 < k → Inv nM l next n → n + d ≤ 30 → 0 ≤ p → p + 20 * d ≤ 70000 → 0 ≤ s → s < 2147483648 →
    ∃ l' next' p' s', spec_l00Src_plainStore.l0 k (d : Int) c p s l next = some (l', next', p', s') ∧ Inv nM l' next' 30
  | 0, k, l, next, n, p, s, hk, hI, hn, h4, h5, h6, h7 => by
    obtain ⟨k, rfl⟩ : ∃ m, k = m + 1 := ⟨k - 1, by omega⟩
    have := hI.l41
    refine ⟨l, next, p, s, ?_, hI.more (by omega) (by decide)⟩
    simp only [spec_l00Src_plainStore.l0]
    rw [if_neg (by omega)]
    unfold spec_l01Own.f
    rw [Option.bind_some, if_pos (by simp; omega)]
    rfl
  | d + 1, k, l, next, n, p, s, hk, hI, hn, h4, h5, h6, h7 => by
    obtain ⟨k, rfl⟩ : ∃ m, k = m + 1 := ⟨k - 1, by omega⟩
    have hk' : 60 < k := by omega
    have hw : wrap64 (((d + 1 : Nat) : Int) - 1) = (d : Int) := by unfold wrap64; omega
    obtain ⟨key, s1, e1, kk, ks, c1, d1⟩ := shortKey_ok hc p s h4 (by omega) h6 h7
    obtain ⟨gd, gv, e2⟩ := zget hI key k hk'
    obtain ⟨v3, s3, e3, a3, b3, c3, d3⟩ := next_ok hc (p + 1) s1 5 (by omega) (by omega) c1 d1 (by decide) (by decide)
    obtain ⟨t4, s4, e4, z4, c4, d4⟩ := some_ok hc k (p + 1 + 1) s3 v3 hk' a3 (by omega) (by omega) (by omega) c3 d3
    obtain ⟨l5, n5, q5, e5, I5⟩ := zover hI (by omega) key gv t4 kk ks z4 k hk'
    simp only [spec_l00Src_plainStore.l0]
    rw [if_pos (by omega), e1, Option.bind_some]
    dsimp only
    rw [e2, Option.bind_some, e3, Option.bind_some]
    dsimp only
    rw [e4, Option.bind_some]
    dsimp only
    rw [e5, Option.bind_some, hw]
    by_cases cv : gv = 0
    · rw [if_pos cv]
      obtain ⟨v6, s6, e6, a6, b6, c6, d6⟩ := next_ok hc (p + 1 + 1 + v3) s4 5 (by omega) (by omega) c4 d4 (by decide) (by decide)
      obtain ⟨t7, s7, e7, z7, c7, d7⟩ := some_ok hc k (p + 1 + 1 + v3 + 1) s6 v6 hk' a6 (by omega) (by omega) (by omega) c6 d6
      obtain ⟨l8, n8, q8, e8, I8⟩ := zabsent hI (by omega) key t7 kk ks z7 k hk'
      rw [e6, Option.bind_some]
      dsimp only
      rw [e7, Option.bind_some]
      dsimp only
      rw [e8, Option.bind_some]
      exact plain_loop hc d k l8 n8 (n + 1) _ s7 (by omega) I8 (by omega) (by omega) (by omega) c7 d7
    · rw [if_neg cv]
      obtain ⟨v6, s6, e6, a6, b6, c6, d6⟩ := next_ok hc (p + 1 + 1 + v3) s4 4 (by omega) (by omega) c4 d4 (by decide) (by decide)
      unfold spec_l00Src_chance.f
      rw [e6, Option.bind_some, Option.bind_some]
      dsimp only
      by_cases cb : (v6 == wrap64 (4 - 1)) = true
      · rw [if_pos cb]
        obtain ⟨l8, n8, q8, e8, I8⟩ := zdelete hI (by omega) key gv k hk'
        rw [e8, Option.bind_some]
        exact plain_loop hc d k l8 n8 (n + 1) _ s6 (by omega) I8 (by omega) (by omega) (by omega) c6 d6
      · rw [if_neg cb]
        exact plain_loop hc d k l5 n5 (n + 1) _ s6 (by omega) I5 (by omega) (by omega) (by omega) c6 d6
/-- what is drawn is a right store -/
theorem plainStore_ok {c : List Int} (hc : Bytes c) (k : Nat) (hk : 80 < k) : ∃ l next, spec_PlainStore.f k c = some (l, next) ∧ Inv nM l next 30 := by
  obtain ⟨v1, s1, e1, a1, b1, c1, d1⟩ := next_ok hc 0 ((c.length : Int) % 1000) 9 (by decide) (by decide) (by omega) (by omega) (by decide) (by decide)
  obtain ⟨d, rfl⟩ : ∃ d : Nat, v1 = (d : Int) := ⟨v1.toNat, by omega⟩
  obtain ⟨l', next', p', s', e2, I2⟩ := plain_loop hc d k [] 1 2 (0 + 1) s1 (by omega) inv_new (by omega) (by decide) (by omega) c1 d1
  unfold spec_PlainStore.f spec_l00Src_plainStore.f spec_NewStore.f
  rw [source_eq, Option.bind_some, Option.bind_some]
  dsimp only
  rw [e1, Option.bind_some]
  dsimp only
  rw [e2, Option.bind_some]
  exact ⟨_, _, rfl, I2⟩
theorem first1 (k : Nat) (b : Bool) (c : Int) : impl_first.f (k + 2) [anyB b, anyI c] = some (if b = true then c else 0) := by
  have w1 : wrap64 1 = 1 := by unfold wrap64; omega
  have w2 : wrap64 2 = 2 := by unfold wrap64; omega
  have w3 : wrap64 3 = 3 := by unfold wrap64; omega
  cases b <;> simp [impl_first.f, impl_first.l0, w1, w2, w3, rdOf, anyAsB, anyAsI]
theorem setL_new (key : ByteArray) (next : Int) (data : ByteArray) : ∀ l : List S32, (⟨key, next, data⟩ : S32) ∈ setL key next data l
  | [] => by unfold setL; simp
  | x :: r => by
    unfold setL
    by_cases a : Op.bytesLess x.f0.toList key.toList = true
    · rw [if_pos a]
      exact List.mem_cons_of_mem _ (setL_new key next data r)
    · rw [if_neg a]
      by_cases b : x.f0.toList = key.toList
      · rw [if_pos b]; exact List.mem_cons_self
      · rw [if_neg b]; exact List.mem_cons_self
section
variable {Q : ByteArray → Bool} {l : List S32} {next n : Int}
theorem Inv.any (h : Inv Q l next n) : Inv (fun _ => true) l next n := ⟨h.srt, h.ver, fun x hx => ⟨⟨(h.obj x hx).1.1, rfl⟩, (h.obj x hx).2⟩, h.lo, h.hi, h.len, h.big⟩
theorem setR_eq (h : Inv Q l next n) (key data : ByteArray) : setR l next key data = setL key next data l := by
  have hl := h.l41
  have h1 := sset_eq l (by omega) next h.objs ⟨h.lo, by have := h.hi; have := h.big; omega⟩ key data 100 (by omega)
  have h2 := zset_eq h key data 100 (by omega)
  rw [h1] at h2
  have h3 := Option.some.inj h2
  rw [Prod.mk.injEq] at h3
  exact h3.1
theorem at_key (h : Inv Q l next n) {x : S32} (hx : x ∈ l) (key : ByteArray) (hk : x.f0.toList = key.toList) : hasK l key = true ∧ cntK l key < l.length ∧ l.getD (cntK l key) z32 = x := by
  obtain ⟨i, hi, rfl⟩ := List.mem_iff_getElem.1 hx
  rw [← getD_at l i hi] at hk
  rcases find_put l next h.objs key with ⟨a1, _, a3, a4⟩ | ⟨_, a2, _⟩
  · refine ⟨a1, a3, ?_⟩
    have hne : ¬ i < cntK l key := fun hlt => by
      have := key_lt l next h.objs hlt a3
      rw [hk, a4, bl_irr] at this
      cases this
    have hne2 : ¬ cntK l key < i := fun hlt => by
      have := key_lt l next h.objs hlt hi
      rw [hk, a4, bl_irr] at this
      cases this
    obtain rfl : i = cntK l key := by omega
    exact getD_at l _ hi
  · rcases findZ_spec key l 0 with ⟨_, ha⟩ | ⟨t, _, e2, _⟩
    · exact absurd hk (ha i hi)
    · rw [a2] at e2
      omega
theorem no_key (h : Inv Q l next n) (key : ByteArray) (hno : ∀ x ∈ l, x.f0.toList ≠ key.toList) : hasK l key = false := by
  rcases find_put l next h.objs key with ⟨_, _, a3, a4⟩ | ⟨a1, _⟩
  · rw [getD_at l _ a3] at a4
    exact absurd a4 (hno _ (List.getElem_mem a3))
  · exact a1
theorem room0 (h : Inv Q l next n) (key data : ByteArray) (hd : data.size ≤ 30) : roomC l next key data = 0 := by
  have h1 := h.l41
  have h2 := h.hi
  have h3 := h.big
  unfold roomC
  rw [if_neg (by omega), if_neg (by rintro (⟨_, e⟩ | e) <;> omega)]
theorem icode0 (h : Inv Q l next n) (key : ByteArray) (hk : kOK key = true) (hs : key.size ≤ 30) (k : Nat) (hk' : 500 < k) : impl_storeCode.f k l next key = some 0 := by
  have hl := h.l41
  have f2 : ∀ b1 b2 c1 c2, impl_first.f k [anyB b1, anyI c1, anyB b2, anyI c2] = some (if b1 = true then c1 else if b2 = true then c2 else 0) := by
    obtain ⟨m, rfl⟩ : ∃ m, k = m + 3 := ⟨k - 3, by omega⟩
    exact first2 m
  unfold impl_storeCode.f
  rw [istoreOK l (by omega) 30 (by omega) (fun x hx => (h.obj x hx).2.1) next k (by omega), ikeyOK key (by omega) k (by omega), h.store, hk]
  simp [f2]
theorem long1 (a : ByteArray) (ha : a.size ≤ 30) : impl_isLong.f [a] = some false := by
  unfold impl_isLong.f shortB
  rw [List.any_cons, List.any_nil, decide_eq_true (by omega)]
  rfl
theorem long2 (a b : ByteArray) (ha : a.size ≤ 30) (hb : b.size ≤ 30) : impl_isLong.f [a, b] = some false := by
  unfold impl_isLong.f shortB
  rw [List.any_cons, List.any_cons, List.any_nil, decide_eq_true (by omega), decide_eq_true (by omega)]
  rfl
theorem gate2 (k : Nat) (hk : 500 < k) : impl_first.f k [anyB false, anyI 2, anyB true, anyI 0] = some 0 := by
  obtain ⟨m, rfl⟩ : ∃ m, k = m + 3 := ⟨k - 3, by omega⟩
  rw [first2 m]
  rfl
theorem iput0 (h : Inv Q l next n) (key data : ByteArray) (hd : data.size ≤ 30) (k : Nat) (hk' : 500 < k) : impl_Store_put.f k l next key data = some (setL key next data l, next + 1, next, 0) := by
  have hl := h.l41
  have h2 := h.hi
  have h3 := h.big
  have h4 := h.lo
  rw [iput_eq l (by omega) next h.objs ⟨h.lo, by omega⟩ key data k (by omega), room0 h key data hd, if_pos rfl, setR_eq h, wrap_id (next + 1) (by omega) (by omega)]
theorem cop0 (l : List S32) (hl : l.length ≤ 50) (next : Int) : impl_Store_copied.f l next = some (l, next) := icop_eq l (by omega) next
theorem iabs_new (h : Inv Q l next n) (key data : ByteArray) (hk : kOK key = true) (hs : key.size ≤ 30) (hd : data.size ≤ 30) (hno : hasK l key = false) (k : Nat) (hk' : 500 < k) :
    impl_PutAbsent.f k l next key data = some (setL key next data l, next + 1, next, 0) := by
  have hl := h.l41
  have h5 := setL_len key next data l
  unfold impl_PutAbsent.f impl_Store_putAbsent.f
  rw [long2 key data hs hd, Option.bind_some, icode0 h key hk hs k hk', Option.bind_some, gate2 k hk', Option.bind_some, if_pos rfl, ifind_eq l (by omega) next h.objs key, Option.bind_some]
  dsimp only
  rw [hno, if_neg (by decide), iput0 h key data hd k hk', Option.bind_some, Option.bind_some]
  dsimp only
  rw [cop0 _ (by omega), Option.bind_some]
theorem iabs_has (h : Inv Q l next n) (key data : ByteArray) (hk : kOK key = true) (hs : key.size ≤ 30) (hd : data.size ≤ 30) (hyes : hasK l key = true) (k : Nat) (hk' : 500 < k) :
    impl_PutAbsent.f k l next key data = some (l, next, 0, 9) := by
  have hl := h.l41
  unfold impl_PutAbsent.f impl_Store_putAbsent.f
  rw [long2 key data hs hd, Option.bind_some, icode0 h key hk hs k hk', Option.bind_some, gate2 k hk', Option.bind_some, if_pos rfl, ifind_eq l (by omega) next h.objs key, Option.bind_some]
  dsimp only
  rw [hyes, if_pos rfl, Option.bind_some]
  dsimp only
  rw [cop0 _ (by omega), Option.bind_some]
theorem vcode (h : Inv Q l next n) (key : ByteArray) (x : S32) (hyes : hasK l key = true) (hlt : cntK l key < l.length) (hx : l.getD (cntK l key) z32 = x) (ver : Int) (k : Nat) (hk' : 500 < k) : impl_Store_versionCode.f k l next key ver = some (if x.f1 = ver then 0 else 10) := by
  have hl := h.l41
  have f1 : ∀ b c, impl_first.f k [anyB b, anyI c] = some (if b = true then c else 0) := by
    obtain ⟨m, rfl⟩ : ∃ m, k = m + 2 := ⟨k - 2, by omega⟩
    exact first1 m
  have n0 : (0 : Int) ≤ ((cntK l key : Nat) : Int) := by omega
  have n2 : ((cntK l key : Nat) : Int) < (l.length : Int) := by omega
  unfold impl_Store_versionCode.f
  rw [ifind_eq l (by omega) next h.objs key, Option.bind_some]
  dsimp only
  rw [hyes, if_pos rfl, if_pos n0, if_pos n2, rd148_cnt, hx, f1, Option.bind_some]
  by_cases e : x.f1 = ver <;> simp [e]
theorem vcode_none (h : Inv Q l next n) (key : ByteArray) (hno : hasK l key = false) (ver : Int) (k : Nat) : impl_Store_versionCode.f k l next key ver = some 5 := by
  have hl := h.l41
  unfold impl_Store_versionCode.f
  rw [ifind_eq l (by omega) next h.objs key, Option.bind_some]
  dsimp only
  rw [hno, if_neg (by decide)]
theorem idel (h : Inv Q l next n) (key : ByteArray) (hk : kOK key = true) (hs : key.size ≤ 30) (ver c : Int) (k : Nat) (hk' : 500 < k) (hc : impl_Store_versionCode.f k l next key ver = some c) (c0 : c ≠ 0) :
    impl_DeleteVersion.f k l next key ver = some (l, next, c) := by
  have hl := h.l41
  unfold impl_DeleteVersion.f
  rw [long1 key hs, Option.bind_some, icode0 h key hk hs k hk', Option.bind_some, gate2 k hk', Option.bind_some, if_pos rfl, hc, Option.bind_some, if_neg c0, cop0 _ (by omega), Option.bind_some]
theorem iget (h : Inv Q l next n) (key : ByteArray) (hk : kOK key = true) (hs : key.size ≤ 30) (x : S32) (hyes : hasK l key = true) (hlt : cntK l key < l.length) (hx : l.getD (cntK l key) z32 = x) (k : Nat) (hk' : 500 < k) :
    impl_GetObject.f k l next key = some (x.f2, x.f1, 0) := by
  have hl := h.l41
  have n0 : (0 : Int) ≤ ((cntK l key : Nat) : Int) := by omega
  have n2 : ((cntK l key : Nat) : Int) < (l.length : Int) := by omega
  unfold impl_GetObject.f
  rw [long1 key hs, Option.bind_some, icode0 h key hk hs k hk', Option.bind_some, gate2 k hk', Option.bind_some, if_pos rfl, ifind_eq l (by omega) next h.objs key, Option.bind_some]
  dsimp only
  rw [hyes, if_pos rfl, if_pos n0, if_pos n2, rd148_cnt, hx]
end
theorem same_loop (l : List S32) (next : Int) (hl : l.length ≤ 100) : ∀ (d k i : Nat), i + d = l.length → d < k → laws_sameStore.l0 k (i : Int) l next l next = some true
  | 0, 0, _, _, hk => by omega
  | d + 1, 0, _, _, hk => by omega
  | 0, k + 1, i, hi, _ => by rw [laws_sameStore.l0, if_neg (by omega)]
  | d + 1, k + 1, i, hi, hk => by
    have h : i < l.length := by omega
    have hw : wrap64 ((i : Int) + 1) = ((i + 1 : Nat) : Int) := by unfold wrap64; omega
    rw [laws_sameStore.l0, if_pos (by omega), if_pos (by omega), if_pos (by omega), rd148_nat l i h, hw, beq_self_eq_true, beq_self_eq_true, beq_self_eq_true, if_neg (by decide)]
    exact same_loop l next hl d k (i + 1) (by omega) (by omega)
theorem same_ok (l : List S32) (next : Int) (hl : l.length ≤ 100) (k : Nat) (hk : 200 < k) : laws_sameStore.f k l next l next = some true := by
  obtain ⟨k, rfl⟩ : ∃ m, k = m + 1 := ⟨k - 1, by omega⟩
  unfold laws_sameStore.f
  rw [if_pos rfl, bne_self_eq_false, laws_sameStore.j0, if_neg (by decide)]
  exact same_loop l next hl l.length k 0 (by omega) (by omega)
theorem textOf_ok {c : List Int} (hc : Bytes c) (m : Int) (h0 : 0 ≤ m) (hm : m ≤ 30) (k : Nat) (hk : 80 < k) : ∃ t, spec_TextOf.f k c m = some t ∧ t.size ≤ 30 := by
  obtain ⟨t, s', e, z, _, _⟩ := some_ok hc k 0 ((c.length : Int) % 1000) m (by omega) h0 hm (by decide) (by decide) (by omega) (by omega)
  refine ⟨t, ?_, z⟩
  unfold spec_TextOf.f
  rw [source_eq, Option.bind_some]
  dsimp only
  rw [e, Option.bind_some]
def m1 : ByteArray := ⟨#[109, 47, 49]⟩
def m2 : ByteArray := ⟨#[109, 47, 50]⟩
def m3 : ByteArray := ⟨#[109, 47, 51]⟩
theorem m1_ok : kOK m1 = true := kOK_lit [109, 47, 49] (by decide) (by decide) (by decide)
theorem m2_ok : kOK m2 = true := kOK_lit [109, 47, 50] (by decide) (by decide) (by decide)
theorem m1_sz : m1.size ≤ 30 := by show (3 : Nat) ≤ 30; decide
theorem m2_sz : m2.size ≤ 30 := by show (3 : Nat) ≤ 30; decide
theorem m12 : m1.toList ≠ m2.toList := by rw [ByteArray.toList_eq, ByteArray.toList_eq]; decide
theorem nM_1 {s : ByteArray} (h : nM s = true) : s.toList ≠ m1.toList := by
  rw [ByteArray.toList_eq, ByteArray.toList_eq]
  intro e
  unfold nM at h
  rw [e] at h
  exact absurd h (by decide)
theorem nM_2 {s : ByteArray} (h : nM s = true) : s.toList ≠ m2.toList := by
  rw [ByteArray.toList_eq, ByteArray.toList_eq]
  intro e
  unfold nM at h
  rw [e] at h
  exact absurd h (by decide)
theorem m3_ok : kOK m3 = true := kOK_lit [109, 47, 51] (by decide) (by decide) (by decide)
theorem m3_sz : m3.size ≤ 30 := by show (3 : Nat) ≤ 30; decide
theorem nM_3 {s : ByteArray} (h : nM s = true) : s.toList ≠ m3.toList := by
  rw [ByteArray.toList_eq, ByteArray.toList_eq]
  intro e
  unfold nM at h
  rw [e] at h
  exact absurd h (by decide)
/-- where a key stands it stands alone -/
theorem oneK_of (l : List S32) (next : Int) (h : objsB l next 0 = true) (key : ByteArray) (c : Nat) (hc : c < l.length) (hk : (l.getD c z32).f0.toList = key.toList) : oneK l key c = true := by
  unfold oneK
  rw [decide_eq_true hc, Bool.true_and, List.all_eq_true]
  intro j hj
  have hj := List.mem_range.1 hj
  rw [beq_iff_eq]
  by_cases e : j = c
  · subst e
    rw [decide_eq_true rfl, hk, beq_self_eq_true]
  · rw [decide_eq_false e, beq_eq_false_iff_ne, ← hk]
    intro he
    rcases Nat.lt_or_gt_of_ne e with h1 | h1
    · have := key_lt l next h h1 hc
      rw [he, bl_irr] at this
      cases this
    · have := key_lt l next h h1 hj
      rw [he, bl_irr] at this
      cases this
theorem setL_keep (key : ByteArray) (next : Int) (data : ByteArray) : ∀ (l : List S32) (y : S32), y ∈ l → y.f0.toList ≠ key.toList → y ∈ setL key next data l
  | [], _, h, _ => by cases h
  | x :: r, y, h, hne => by
    unfold setL
    by_cases a : Op.bytesLess x.f0.toList key.toList = true
    · rw [if_pos a]
      rcases List.mem_cons.1 h with rfl | h
      · exact List.mem_cons_self
      · exact List.mem_cons_of_mem _ (setL_keep key next data r y h hne)
    · rw [if_neg a]
      by_cases b : x.f0.toList = key.toList
      · rw [if_pos b]
        rcases List.mem_cons.1 h with rfl | h
        · exact absurd b hne
        · exact List.mem_cons_of_mem _ h
      · rw [if_neg b]
        exact List.mem_cons_of_mem _ h
section
variable {Q : ByteArray → Bool} {l : List S32} {next n : Int}
theorem Inv.up (h : Inv Q l next n) (hn : n + 1 ≤ 40) : Inv Q l (next + 1) (n + 1) :=
  ⟨h.srt, h.ver, fun x hx => by obtain ⟨a, b, c, d, e⟩ := h.obj x hx; exact ⟨a, b, c, by omega, e⟩, by have := h.lo; omega, by have := h.hi; omega, by have := h.len; omega, hn⟩
theorem cnt_set (h : Inv Q l next n) (key data : ByteArray) (hno : hasK l key = false) : cntK (setL key next data l) key = cntK l key ∧ (setL key next data l).take (cntK l key) ++ (setL key next data l).drop (cntK l key + 1) = l := by
  have hc := (cnt_cut l next h.objs key).1
  have hs : setL key next data l = l.take (cntK l key) ++ ⟨key, next, data⟩ :: l.drop (cntK l key) := by
    rw [← setR_eq h]
    unfold setR
    rw [if_neg (by rw [hno]; decide)]
  have hz : decide (cmpK key (⟨key, next, data⟩ : S32) < 0) = false := by
    unfold cmpK
    rw [(cmp_eq key.data.toList key.data.toList).2 rfl]
    decide
  refine ⟨?_, ?_⟩
  · rw [hs]
    have e1 : (l.take (cntK l key) ++ (⟨key, next, data⟩ : S32) :: l.drop (cntK l key)).countP (fun x => decide (cmpK key x < 0)) = (l.take (cntK l key) ++ l.drop (cntK l key)).countP (fun x => decide (cmpK key x < 0)) := by
      rw [List.countP_append, List.countP_append, List.countP_cons]
      simp only [hz, Bool.false_eq_true, if_false, Nat.add_zero]
    rw [List.take_append_drop] at e1
    exact e1
  · rw [hs]
    have hlen : (l.take (cntK l key)).length = cntK l key := by rw [List.length_take]; omega
    generalize cntK l key = c at hlen
    have e1 : (l.take c ++ (⟨key, next, data⟩ : S32) :: l.drop c).take c = l.take c := by
      conv => lhs; arg 1; rw [← hlen]
      exact List.take_left ..
    have e2 : (l.take c ++ (⟨key, next, data⟩ : S32) :: l.drop c).drop (c + 1) = l.drop c := by
      have e3 : l.take c ++ (⟨key, next, data⟩ : S32) :: l.drop c = (l.take c ++ [(⟨key, next, data⟩ : S32)]) ++ l.drop c := by simp
      have e4 : (l.take c ++ [(⟨key, next, data⟩ : S32)]).length = c + 1 := by rw [List.length_append, hlen]; rfl
      rw [e3, ← e4]
      exact List.drop_left ..
    rw [e1, e2, List.take_append_drop]
theorem idel_ok (h : Inv Q l next n) (key : ByteArray) (hk : kOK key = true) (hs : key.size ≤ 30) (x : S32) (hyes : hasK l key = true) (hlt : cntK l key < l.length) (hx : l.getD (cntK l key) z32 = x) (hkx : x.f0.toList = key.toList) (ver : Int) (hv : x.f1 = ver) (k : Nat) (hk' : 500 < k) :
    impl_DeleteVersion.f k l next key ver = some (l.take (cntK l key) ++ l.drop (cntK l key + 1), next, 0) := by
  have hl := h.l41
  have hv2 := vcode h key x hyes hlt hx ver k hk'
  rw [if_pos hv] at hv2
  have ho := oneK_of l next h.objs key (cntK l key) hlt (by rw [hx]; exact hkx)
  unfold impl_DeleteVersion.f impl_Store_without.f
  rw [long1 key hs, Option.bind_some, icode0 h key hk hs k hk', Option.bind_some, gate2 k hk', Option.bind_some, if_pos rfl, hv2, Option.bind_some, if_pos rfl, if_pos ⟨by omega, ho⟩, Option.bind_some]
theorem iget_none (h : Inv Q l next n) (key : ByteArray) (hk : kOK key = true) (hs : key.size ≤ 30) (hno : hasK l key = false) (k : Nat) (hk' : 500 < k) : impl_GetObject.f k l next key = some (⟨#[]⟩, 0, 5) := by
  have hl := h.l41
  unfold impl_GetObject.f
  rw [long1 key hs, Option.bind_some, icode0 h key hk hs k hk', Option.bind_some, gate2 k hk', Option.bind_some, if_pos rfl, ifind_eq l (by omega) next h.objs key, Option.bind_some]
  dsimp only
  rw [hno, if_neg (by decide)]
end
theorem isame_loop (l : List S32) (hl : l.length ≤ 100) : ∀ (d k i : Nat), i + d = l.length → d < k → impl_Object_43.l0 k l l (l.length : Int) (i : Int) = some true
  | 0, 0, _, _, hk => by omega
  | d + 1, 0, _, _, hk => by omega
  | 0, k + 1, i, hi, _ => by rw [impl_Object_43.l0, if_neg (by omega)]
  | d + 1, k + 1, i, hi, hk => by
    have h : i < l.length := by omega
    have hw : wrap64 ((i : Int) + 1) = ((i + 1 : Nat) : Int) := by unfold wrap64; omega
    rw [impl_Object_43.l0, if_pos (by omega), if_pos (by omega), if_pos (by omega), if_pos (by omega), rd148_nat l i h, hw, beq_self_eq_true, beq_self_eq_true, beq_self_eq_true, if_neg (by decide)]
    exact isame_loop l hl d k (i + 1) (by omega) (by omega)
theorem isame_ok (l : List S32) (next : Int) (hl : l.length ≤ 100) (k : Nat) (hk : 200 < k) : impl_SameStore.f k l next l next = some true := by
  have := isame_loop l hl l.length k 0 (by omega) (by omega)
  rw [show ((0 : Nat) : Int) = 0 from rfl] at this
  unfold impl_SameStore.f impl_Object_43.f
  rw [if_pos rfl, this, Option.bind_some, if_pos rfl, beq_self_eq_true]
theorem st_loop {l1 : List S32} {nx m : Int} (I1 : Inv (fun _ => true) l1 nx m) (l : List S32) (next : Int) (hl : l.length ≤ 100) (hm : ∀ x ∈ l, x ∈ l1) : ∀ (d k i : Nat), i + d = l.length → d + 1000 < k → laws_FnStore.l0 k (i : Int) l next l1 nx l1 nx l nx = some true
  | 0, 0, _, _, hk => by omega
  | d + 1, 0, _, _, hk => by omega
  | 0, k + 1, i, hi, hk => by
    rw [laws_FnStore.l0, if_neg (by omega), isame_ok l1 nx (by have := I1.l41; omega) k (by omega), Option.bind_some, if_pos rfl, beq_self_eq_true]
  | d + 1, k + 1, i, hi, hk => by
    have h : i < l.length := by omega
    have hw : wrap64 ((i : Int) + 1) = ((i + 1 : Nat) : Int) := by unfold wrap64; omega
    have hx := hm l[i] (List.getElem_mem h)
    obtain ⟨⟨o1, _⟩, o2, _⟩ := I1.obj l[i] hx
    obtain ⟨y1, y2, y3⟩ := at_key I1 hx l[i].f0 rfl
    have g := iget I1 l[i].f0 o1 o2 l[i] y1 y2 y3 k (by omega)
    have ih := st_loop I1 l next hl hm d k (i + 1) (by omega) (by omega)
    rw [laws_FnStore.l0, if_pos (by omega), if_pos (by omega), rd148_nat l i h, g, Option.bind_some]
    dsimp only
    rw [if_pos rfl, if_pos rfl, if_pos rfl, if_pos (by omega), beq_self_eq_true, beq_self_eq_true, beq_self_eq_true, if_neg (by decide), hw]
    exact ih
theorem store_start (n : Nat) (l0 l1 : List Int) (hj : laws_FnStore.j0 (n + 1) l0 l1 false = some true) : laws_FnStore.f (n + 1) l0 l1 = some true := by
  have ht : laws_FnStore.j0 (n + 1) l0 l1 true = some true := by simp only [laws_FnStore.j0, if_true]
  unfold laws_FnStore.f
  by_cases h : (l0.length : Int) > 1048576
  · rw [if_pos h]; exact ht
  · rw [if_neg h]
    by_cases h' : (l1.length : Int) > 1048576
    · rw [decide_eq_true h']; exact ht
    · rw [decide_eq_false h']; exact hj
theorem FnStore : laws_FnStore.Pure := by
  intro l0 l1 ⟨hz0, hn0, hb0⟩ ⟨hz1, hn1, hb1⟩
  have hb0 := bytes_of hb0
  have hb1 := bytes_of hb1
  obtain ⟨k, hk⟩ : ∃ k : Nat, 140737488400000 < k := ⟨140737488400001, by omega⟩
  obtain ⟨m, rfl⟩ : ∃ m, k = m + 1 := ⟨k - 1, by omega⟩
  refine ⟨m + 1 + 1, ?_⟩
  refine store_start _ _ _ ?_
  obtain ⟨l, next, e0, I0⟩ := plainStore_ok hb0 (m + 1) (by omega)
  obtain ⟨t, e1, t0, t1⟩ := at_ok hb1 (by omega) 0 3 (by decide) (by decide) (by decide) (by decide)
  obtain ⟨j, e2, j0, j1⟩ := at_ok hb1 (by omega) 1 9 (by decide) (by decide) (by decide) (by decide)
  obtain ⟨tx, et, zt⟩ := textOf_ok hb1 j j0 (by omega) (m + 1) (by omega)
  obtain ⟨key, hkey, hrs, kk, ks, kn⟩ : ∃ key, (⟨#[109, 47]⟩ : ByteArray) ++ rdOf ByteArray.empty ([(⟨#[49]⟩ : ByteArray), (⟨#[50]⟩ : ByteArray), (⟨#[51]⟩ : ByteArray)] : List ByteArray) t = key ∧ (rdOf ByteArray.empty ([(⟨#[49]⟩ : ByteArray), (⟨#[50]⟩ : ByteArray), (⟨#[51]⟩ : ByteArray)] : List ByteArray) t).size ≤ 10 ∧ kOK key = true ∧ key.size ≤ 30 ∧ ∀ s, nM s = true → s.toList ≠ key.toList := by
    have ht : t = 0 ∨ t = 1 ∨ t = 2 := by omega
    rcases ht with rfl | rfl | rfl
    · exact ⟨m1, rfl, by show (1 : Nat) ≤ 10; decide, m1_ok, m1_sz, fun s h => nM_1 h⟩
    · exact ⟨m2, rfl, by show (1 : Nat) ≤ 10; decide, m2_ok, m2_sz, fun s h => nM_2 h⟩
    · exact ⟨m3, rfl, by show (1 : Nat) ≤ 10; decide, m3_ok, m3_sz, fun s h => nM_3 h⟩
  have hlen : (([(⟨#[49]⟩ : ByteArray), (⟨#[50]⟩ : ByteArray), (⟨#[51]⟩ : ByteArray)] : List ByteArray).length : Int) = 3 := rfl
  have J0 := I0.any
  have hl := I0.l41
  have no1 : hasK l key = false := no_key I0 key (fun x hx => kn _ (I0.obj x hx).1.2)
  have a1 := iabs_new I0 key tx kk ks zt no1 (m + 1) (by omega)
  have hmul : l.length * (l.length + 5) ≤ 40 * 45 := Nat.mul_le_mul hl (by omega)
  obtain ⟨p1, p2⟩ := putA_same l (by omega) (fun x hx => by have := (I0.obj x hx).2.1; omega) next key tx (by omega) (m + 1) (by omega)
  rw [a1] at p2
  rw [← p2] at p1
  have I1 := J0.set (by decide) key tx ⟨kk, rfl⟩ ks zt
  have hll := I1.l41
  obtain ⟨y1, y2, y3⟩ := at_key I1 (setL_new key next tx l) key rfl
  obtain ⟨c1, c2⟩ := cnt_set I0 key tx no1
  have a3 := iget I1 key kk ks _ y1 y2 y3 (m + 1) (by omega)
  have a4 := idel_ok I1 key kk ks _ y1 y2 y3 rfl next rfl (m + 1) (by omega)
  rw [c1, c2] at a4
  have a5 := iget_none (J0.up (by decide)) key kk ks no1 (m + 1) (by omega)
  have hst := istoreOK (setL key next tx l) (by omega) 30 (by omega) (fun x hx => (I1.obj x hx).2.1) (next + 1) (m + 1) (by omega)
  rw [I1.store] at hst
  have hko := ikeyOK key (by omega) (m + 1) (by omega)
  rw [kk] at hko
  have hss := same_ok (setL key next tx l) (next + 1) (by omega) (m + 1) (by omega)
  have hlp := st_loop I1 l next (by omega) (fun x hx => setL_keep key next tx l x hx (kn _ (I0.obj x hx).1.2)) l.length m 0 (by omega) (by omega)
  rw [show ((0 : Nat) : Int) = 0 from rfl] at hlp
  generalize setL key next tx l = l1' at a1 p1 a3 a4 hst hss hlp
  rw [laws_FnStore.j0, if_neg (by decide), e0, Option.bind_some, Option.bind_some, e1, Option.bind_some, if_pos t0, hlen, if_pos t1, if_pos (by omega), hkey, e2, Option.bind_some, et, Option.bind_some]
  dsimp only
  rw [a1, Option.bind_some, p1, Option.bind_some]
  dsimp only
  rw [a3, Option.bind_some, a4, Option.bind_some]
  dsimp only
  rw [a5, Option.bind_some]
  dsimp only
  rw [if_pos rfl, hss, Option.bind_some, if_pos rfl, if_pos rfl, if_pos rfl, if_pos rfl, if_pos rfl, if_pos rfl, if_pos rfl, hst, Option.bind_some, if_pos rfl, hko, Option.bind_some]
  rw [laws_FnStore.j1, if_neg (by decide)]
  exact hlp

end Go.Proofs.Ytgkfemnfbkgeiaa.Pure
