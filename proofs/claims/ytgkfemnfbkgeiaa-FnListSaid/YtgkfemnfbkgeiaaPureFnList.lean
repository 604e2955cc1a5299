/- The pure law of FnList: what the printed functions compute answers true for every input of the kinds and sizes that the statement gives. -/
import Derived.Test.YtgkfemnfbkgeiaaKinFnList
namespace Go.Proofs.Ytgkfemnfbkgeiaa.Pure
open Go.RowKit Go.Proofs.YtgkfemnfbkgeiaaW.PrintWords Go.Proofs.YtgkfemnfbkgeiaaW.PrintLast Go.Proofs.Ytgkfemnfbkgeiaa.XFnList
set_option linter.unusedSimpArgs false
set_option linter.unusedVariables false

-- BODY
theorem wrap_id (n : Int) (h0 : -9223372036854775808 ≤ n) (h1 : n ≤ 9223372036854775807) : wrap64 n = n := by
  unfold wrap64
  omega
/-- bytes, as they are handed in -/
def Bytes (c : List Int) : Prop := ∀ y ∈ c, 0 ≤ y ∧ y ≤ 255
theorem bytes_of {c : List Int} (h : ∀ y ∈ c, (Lit.int .u8 y).wf = true) : Bytes c := by
  intro y hy
  have := h y hy
  unfold Lit.wf at this
  rw [Bool.and_eq_true, decide_eq_true_eq, decide_eq_true_eq] at this
  have h1 : IntKind.u8.min = 0 := by decide
  have h2 : IntKind.u8.max = 255 := by decide
  omega
theorem rd_byte {c : List Int} (h : Bytes c) (i : Int) : 0 ≤ rd c i ∧ rd c i ≤ 255 := by
  unfold rd
  by_cases hi : i.toNat < c.length
  · rw [List.getD_eq_getElem?_getD, List.getElem?_eq_getElem hi]
    exact h _ (List.getElem_mem hi)
  · rw [List.getD_eq_getElem?_getD, List.getElem?_eq_none (by omega)]
    exact ⟨Int.le_refl _, by decide⟩
theorem tmod_in (x m : Int) (h0 : 0 ≤ x) (h1 : 0 < m) : 0 ≤ Int.tmod x m ∧ Int.tmod x m < m := by
  rw [Int.tmod_eq_emod_of_nonneg h0]
  exact ⟨Int.emod_nonneg _ (by omega), Int.emod_lt_of_pos _ h1⟩
/-- a byte is drawn -/
theorem byte_ok {c : List Int} (hc : Bytes c) (p s : Int) (hp : 0 ≤ p) (hp1 : p ≤ 100000) (hs : 0 ≤ s) (hs1 : s < 2147483648) : ∃ v s', spec_l00Src_byte.f c p s = some (v, p + 1, s') ∧ 0 ≤ v ∧ v ≤ 255 ∧ 0 ≤ s' ∧ s' < 2147483648 := by
  unfold spec_l00Src_byte.f
  rw [if_pos ⟨hp, by omega⟩]
  obtain ⟨b0, b1⟩ := rd_byte hc p
  by_cases hl : p + 1 ≤ (c.length : Int)
  · rw [if_pos hl, wrap_id (rd c p) (by omega) (by omega), wrap_id (s * 31) (by omega) (by omega), wrap_id (s * 31 + rd c p) (by omega) (by omega), wrap_id (s * 31 + rd c p + 7) (by omega) (by omega)]
    obtain ⟨h1, h2⟩ := tmod_in (s * 31 + rd c p + 7) 2147483648 (by omega) (by omega)
    exact ⟨_, _, rfl, b0, b1, h1, h2⟩
  · rw [if_neg hl]
    by_cases hl2 : p + 1 > 3000
    · rw [if_pos hl2]
      exact ⟨_, _, rfl, by omega, by omega, hs, hs1⟩
    · rw [if_neg hl2, wrap_id (s * 1103515245) (by omega) (by omega), wrap_id (s * 1103515245 + 12345) (by omega) (by omega)]
      obtain ⟨h1, h2⟩ := tmod_in (s * 1103515245 + 12345) 2147483648 (by omega) (by omega)
      generalize Int.tmod (s * 1103515245 + 12345) 2147483648 = t at *
      have h3 : 0 ≤ Int.tdiv t 65536 ∧ Int.tdiv t 65536 ≤ 32768 := by
        rw [Int.tdiv_eq_ediv_of_nonneg h1]
        omega
      rw [wrap_id (Int.tdiv t 65536) (by omega) (by omega)]
      obtain ⟨h4, h5⟩ := tmod_in (Int.tdiv t 65536) 256 (by omega) (by omega)
      exact ⟨_, _, rfl, h4, by omega, h1, h2⟩
/-- one of n is drawn -/
theorem next_ok {c : List Int} (hc : Bytes c) (p s n : Int) (hp : 0 ≤ p) (hp1 : p ≤ 100000) (hs : 0 ≤ s) (hs1 : s < 2147483648) (hn : 2 ≤ n) (hn1 : n ≤ 256) : ∃ v s', spec_l00Src_next.f c p s n = some (v, p + 1, s') ∧ 0 ≤ v ∧ v < n ∧ 0 ≤ s' ∧ s' < 2147483648 := by
  obtain ⟨v, s', h, h0, h1, h2, h3⟩ := byte_ok hc p s hp hp1 hs hs1
  unfold spec_l00Src_next.f
  rw [if_neg (by omega), if_pos hn1, h]
  simp only [Option.bind_some]
  rw [if_neg (by omega)]
  obtain ⟨h4, h5⟩ := tmod_in v n h0 (by omega)
  exact ⟨_, _, rfl, h4, h5, h2, h3⟩
theorem source_eq (c : List Int) : spec_l00Source.f c = some (c, 0, (c.length : Int) % 1000) := rfl
/-- a choice that bytes make -/
theorem at_ok {c : List Int} (hc : Bytes c) (hl : c.length ≤ 140737488351232) (i n : Int) (hi : 0 ≤ i) (hi1 : i ≤ 1000) (hn : 1 ≤ n) (hn1 : n ≤ 100000) : ∃ v, laws_at.f c i n = some v ∧ 0 ≤ v ∧ v < n := by
  unfold laws_at.f
  by_cases h1 : n ≤ 1
  · rw [if_pos h1]; exact ⟨_, rfl, by omega, by omega⟩
  · rw [if_neg h1]
    by_cases h2 : (c.length : Int) = 0
    · rw [if_pos h2, if_neg (by omega), wrap_id (i * 7) (by omega) (by omega)]
      obtain ⟨h4, h5⟩ := tmod_in (i * 7) n (by omega) (by omega)
      exact ⟨_, rfl, h4, h5⟩
    · rw [if_neg h2, wrap_id (i + 1) (by omega) (by omega)]
      obtain ⟨a0, a1⟩ := tmod_in i (c.length : Int) (by omega) (by omega)
      obtain ⟨a2, a3⟩ := tmod_in (i + 1) (c.length : Int) (by omega) (by omega)
      rw [if_pos a0, if_pos a1, if_pos a2, if_pos a3, if_neg (by omega)]
      obtain ⟨b0, b1⟩ := rd_byte hc (Int.tmod i (c.length : Int))
      obtain ⟨b2, b3⟩ := rd_byte hc (Int.tmod (i + 1) (c.length : Int))
      generalize rd c (Int.tmod i (c.length : Int)) = x at *
      generalize rd c (Int.tmod (i + 1) (c.length : Int)) = y at *
      have h3 : 0 ≤ Int.tdiv i (c.length : Int) ∧ Int.tdiv i (c.length : Int) ≤ i := by
        rw [Int.tdiv_eq_ediv_of_nonneg hi]
        exact ⟨Int.ediv_nonneg hi (by omega), Int.ediv_le_self _ hi⟩
      generalize Int.tdiv i (c.length : Int) = z at *
      rw [wrap_id x (by omega) (by omega), wrap_id y (by omega) (by omega), wrap_id z (by omega) (by omega), wrap_id (x * 31) (by omega) (by omega), wrap_id (x * 31 + y) (by omega) (by omega), wrap_id (x * 31 + y + z) (by omega) (by omega)]
      obtain ⟨h4, h5⟩ := tmod_in (x * 31 + y + z) n (by omega) (by omega)
      exact ⟨_, rfl, h4, h5⟩
theorem within_eq (a b c : Int) : impl_within.f a b c = some (decide (b ≤ a) && decide (a ≤ c)) := by
  unfold impl_within.f; by_cases h : b ≤ a <;> simp [h]
theorem in_eq (a b c : Int) : spec_l01In.f a b c = some (decide (b ≤ a) && decide (a ≤ c)) := by
  unfold spec_l01In.f; by_cases h : b ≤ a <;> simp [h]
theorem rd32_at (l : List S32) (i : Nat) (h : i < l.length) : rd_T32 l (i : Int) = l[i] := by
  unfold rd_T32; rw [Int.toNat_natCast, List.getD_eq_getElem?_getD, List.getElem?_eq_getElem h]; rfl
theorem first2 (k : Nat) (b1 b2 : Bool) (c1 c2 : Int) : impl_first.f (k + 3) [anyB b1, anyI c1, anyB b2, anyI c2] = some (if b1 = true then c1 else if b2 = true then c2 else 0) := by
  have w1 : wrap64 1 = 1 := by unfold wrap64; omega
  have w2 : wrap64 2 = 2 := by unfold wrap64; omega
  have w3 : wrap64 3 = 3 := by unfold wrap64; omega
  have w4 : wrap64 4 = 4 := by unfold wrap64; omega
  have w5 : wrap64 5 = 5 := by unfold wrap64; omega
  cases b1 <;> cases b2 <;> simp [impl_first.f, impl_first.l0, w1, w2, w3, w4, w5, rdOf, anyAsB, anyAsI]
theorem first3 (k : Nat) (b1 b2 b3 : Bool) (c1 c2 c3 : Int) : impl_first.f (k + 4) [anyB b1, anyI c1, anyB b2, anyI c2, anyB b3, anyI c3] = some (if b1 = true then c1 else if b2 = true then c2 else if b3 = true then c3 else 0) := by
  have w1 : wrap64 1 = 1 := by unfold wrap64; omega
  have w2 : wrap64 2 = 2 := by unfold wrap64; omega
  have w3 : wrap64 3 = 3 := by unfold wrap64; omega
  have w4 : wrap64 4 = 4 := by unfold wrap64; omega
  have w5 : wrap64 5 = 5 := by unfold wrap64; omega
  have w6 : wrap64 6 = 6 := by unfold wrap64; omega
  have w7 : wrap64 7 = 7 := by unfold wrap64; omega
  cases b1 <;> cases b2 <;> cases b3 <;> simp [impl_first.f, impl_first.l0, w1, w2, w3, w4, w5, w6, w7, rdOf, anyAsB, anyAsI]
/-- a byte that a key may hold -/
def kb (b : Int) : Bool := decide ((48 ≤ b ∧ b ≤ 57) ∨ (97 ≤ b ∧ b ≤ 122) ∨ b = 47 ∨ b = 45)
theorem kspec_round (x : ByteArray) (k : Nat) (i : Int) (h0 : 0 ≤ i) (hl : i < (x.size : Int)) (hw : wrap64 (i + 1) = i + 1) :
    spec_KeyOK.l0 (k + 1) x i = if kb (bt x i) = true then spec_KeyOK.l0 k x (i + 1) else some false := by
  simp only [spec_KeyOK.l0, spec_l00Digit.f, hw]
  rw [if_pos hl, if_pos h0]
  unfold kb
  generalize bt x i = b
  by_cases a1 : b ≥ 48 <;> by_cases a2 : b ≤ 57 <;> by_cases a3 : b < 97 <;> by_cases a4 : b > 122 <;> by_cases a5 : b = 47 <;> by_cases a6 : b = 45 <;>
    first | omega | (simp [a1, a2, a3, a4, a5, a6] <;> omega)
theorem kimpl_round (x : ByteArray) (k : Nat) (i : Int) (h0 : 0 ≤ i) (hl : i < (x.size : Int)) (hw : wrap64 (i + 1) = i + 1) :
    impl_KeyOK.l0 (k + 1) x (x.size : Int) i = if kb (bt x i) = true then impl_KeyOK.l0 k x (x.size : Int) (i + 1) else some false := by
  simp only [impl_KeyOK.l0, hw]
  rw [if_pos hl, if_pos h0, if_pos hl]
  unfold kb
  generalize bt x i = b
  by_cases a1 : b < 48 <;> by_cases a2 : b > 57 <;> by_cases a3 : b < 97 <;> by_cases a4 : b > 122 <;> by_cases a5 : b = 47 <;> by_cases a6 : b = 45 <;>
    first | omega | (simp [a1, a2, a3, a4, a5, a6] <;> omega)
def kFrom (x : ByteArray) (i : Nat) : Bool := ((List.range x.size).drop i).all (fun j => kb (bt x (j : Int))) && (decide (1 ≤ (x.size : Int)) && decide ((x.size : Int) ≤ 30))
theorem kFrom_step (x : ByteArray) (i : Nat) (h : i < x.size) : kFrom x i = (kb (bt x (i : Int)) && kFrom x (i + 1)) := by
  unfold kFrom
  rw [List.drop_eq_getElem_cons (show i < (List.range x.size).length by rw [List.length_range]; exact h), List.all_cons, List.getElem_range, Bool.and_assoc]
theorem key_loops (x : ByteArray) (hn : x.size ≤ 140737488351232) (d : Nat) : ∀ (k i : Nat), i ≤ x.size → x.size - i = d → d < k →
    spec_KeyOK.l0 k x (i : Int) = some (kFrom x i) ∧ impl_KeyOK.l0 k x (x.size : Int) (i : Int) = some (kFrom x i) := by
  induction d with
  | zero =>
    intro k i h1 hd hk
    obtain ⟨k, rfl⟩ : ∃ m, k = m + 1 := ⟨k - 1, by omega⟩
    obtain rfl : i = x.size := by omega
    have e : kFrom x x.size = (decide (1 ≤ (x.size : Int)) && decide ((x.size : Int) ≤ 30)) := by
      unfold kFrom
      rw [List.drop_of_length_le (by rw [List.length_range]; exact Nat.le_refl _)]
      rfl
    simp only [spec_KeyOK.l0, impl_KeyOK.l0, in_eq, within_eq, Option.bind_some]
    rw [if_neg (by omega), e]
    exact ⟨rfl, by rw [if_neg (by omega)]⟩
  | succ d ih =>
    intro k i h1 hd hk
    obtain ⟨k, rfl⟩ : ∃ m, k = m + 1 := ⟨k - 1, by omega⟩
    have hlt : i < x.size := by omega
    have hw : wrap64 ((i : Int) + 1) = (i : Int) + 1 := by unfold wrap64; omega
    obtain ⟨h1, h2⟩ := ih k (i + 1) (by omega) (by omega) (by omega)
    have e : ((i : Int) + 1) = ((i + 1 : Nat) : Int) := by omega
    rw [kspec_round x k i (by omega) (by omega) hw, kimpl_round x k i (by omega) (by omega) hw, e, h1, h2, kFrom_step x i hlt]
    cases kb (bt x (i : Int)) <;> simp
/-- a key -/
def kOK (x : ByteArray) : Bool := kFrom x 0
theorem keyOK_eq (x : ByteArray) (hn : x.size ≤ 140737488351232) (k : Nat) (hk : x.size < k) : spec_KeyOK.f k x = some (kOK x) ∧ impl_KeyOK.f k x = some (kOK x) := by
  obtain ⟨h1, h2⟩ := key_loops x hn x.size k 0 (by omega) (by omega) hk
  unfold spec_KeyOK.f impl_KeyOK.f
  have e : ((0 : Nat) : Int) = 0 := rfl
  rw [e] at h1 h2
  refine ⟨?_, h2⟩
  by_cases h : (x.size : Int) > 65536
  · rw [if_pos h]
    have : kOK x = false := by
      unfold kOK kFrom
      rw [decide_eq_false (show ¬ (x.size : Int) ≤ 30 by omega)]
      simp
    rw [this]
  · rw [if_neg h]
    exact h1
/-- what is asked of the object at place i -/
def dupB (l : List S32) (i : Nat) (v : Int) : Bool := (l.take i).any (fun x => decide (x.f1 = v))
def ordB (l : List S32) (i : Nat) : Bool := decide (i = 0) || Op.bytesLess ((l.getD (i - 1) z32).f0).toList ((l.getD i z32).f0).toList
def objB (l : List S32) (next : Int) (i : Nat) : Bool :=
  kOK (l.getD i z32).f0 && ((decide (1 ≤ (l.getD i z32).f1) && decide ((l.getD i z32).f1 ≤ wrap64 (next - 1))) && (decide (((l.getD i z32).f2.size : Int) ≤ 600) && (ordB l i && !(dupB l i (l.getD i z32).f1))))
def objsB (l : List S32) (next : Int) (i : Nat) : Bool := ((List.range l.length).drop i).all (fun j => objB l next j)
theorem objsB_step (l : List S32) (next : Int) (i : Nat) (h : i < l.length) : objsB l next i = (objB l next i && objsB l next (i + 1)) := by
  unfold objsB
  rw [List.drop_eq_getElem_cons (show i < (List.range l.length).length by rw [List.length_range]; exact h), List.all_cons, List.getElem_range]
theorem objsB_end (l : List S32) (next : Int) : objsB l next l.length = true := by
  unfold objsB
  rw [List.drop_of_length_le (by rw [List.length_range]; exact Nat.le_refl _)]
  rfl
def storeB (l : List S32) (next : Int) : Bool := objsB l next 0 && (decide ((l.length : Int) ≤ 300) && (decide (1 ≤ next) && decide (next ≤ 1000000000)))
theorem dup_loop (l : List S32) (hl : l.length ≤ 1048576) (next v : Int) (a b : ByteArray) (i : Nat) (hi : i < l.length) (d : Nat) : ∀ (k0 j : Nat), j ≤ i → i - j = d →
    spec_StoreOK.l1 (k0 + d + 1) (i : Int) (j : Int) l next a v b = if ((l.take i).drop j).any (fun x => decide (x.f1 = v)) = true then some false else spec_StoreOK.l0 k0 ((i + 1 : Nat) : Int) l next := by
  have hw : wrap64 ((i : Int) + 1) = ((i + 1 : Nat) : Int) := by unfold wrap64; omega
  induction d with
  | zero =>
    intro k0 j hj hd
    obtain rfl : j = i := by omega
    simp only [spec_StoreOK.l1]
    rw [if_neg (by omega), hw, List.drop_of_length_le (by rw [List.length_take]; omega)]
    rfl
  | succ d ih =>
    intro k0 j hj hd
    have hlt : j < i := by omega
    have hwj : wrap64 ((j : Int) + 1) = ((j + 1 : Nat) : Int) := by unfold wrap64; omega
    have hd2 : (l.take i).drop j = l[j]'(by omega) :: (l.take i).drop (j + 1) := by
      rw [List.drop_eq_getElem_cons (show j < (l.take i).length by rw [List.length_take]; omega), List.getElem_take]
    have ihj := ih k0 (j + 1) (by omega) (by omega)
    rw [show k0 + (d + 1) + 1 = (k0 + d + 1) + 1 by omega]
    generalize k0 + d + 1 = K at ihj ⊢
    simp only [spec_StoreOK.l1]
    rw [if_pos (by omega), if_pos (by omega), if_pos (by omega), rd32_at l j (by omega), hwj, ihj, hd2, List.any_cons]
    by_cases hv : (l[j]'(by omega)).f1 = v
    · rw [if_pos hv, decide_eq_true hv]; simp
    · rw [if_neg hv, decide_eq_false hv]; simp
theorem getD_at (l : List S32) (i : Nat) (h : i < l.length) : l.getD i z32 = l[i] := by
  rw [List.getD_eq_getElem?_getD, List.getElem?_eq_getElem h]; rfl
theorem sspec_step (l : List S32) (hl : l.length ≤ 1048576) (next : Int) (i : Nat) (hi : i < l.length) (k0 : Nat) (hk : (l[i]).f0.size < k0) (hs : (l[i]).f0.size ≤ 140737488351232) :
    spec_StoreOK.l0 (k0 + i + 3) (i : Int) l next = if objB l next i = true then spec_StoreOK.l0 k0 ((i + 1 : Nat) : Int) l next else some false := by
  have hd := dup_loop l hl next (l[i]).f1 (l[i]).f0 (l[i]).f2 i hi i k0 0 (by omega) (by omega)
  rw [show k0 + i + 3 = (k0 + i + 1 + 1) + 1 by omega]
  obtain ⟨hkk, _⟩ := keyOK_eq (l[i]).f0 hs (k0 + i + 1 + 1) (by omega)
  have e0 : ((0 : Nat) : Int) = 0 := rfl
  rw [e0, List.drop_zero] at hd
  simp only [spec_StoreOK.l0]
  rw [if_pos (by omega), if_pos (by omega), rd32_at l i hi, hkk]
  simp only [Option.bind_some, in_eq, spec_StoreOK.j1]
  rw [hd]
  unfold objB dupB
  rw [getD_at l i hi]
  cases kOK (l[i]).f0 with
  | false => simp
  | true =>
    simp only [if_true, Bool.true_and]
    cases (decide (1 ≤ (l[i]).f1) && decide ((l[i]).f1 ≤ wrap64 (next - 1))) with
    | false => simp
    | true =>
      simp only [if_true, Bool.true_and]
      by_cases h6 : (((l[i]).f2).size : Int) > 600
      · rw [if_pos h6, decide_eq_false (show ¬ (((l[i]).f2).size : Int) ≤ 600 by omega)]
        simp
      · rw [if_neg h6, decide_eq_true (show (((l[i]).f2).size : Int) ≤ 600 by omega), Bool.true_and]
        rcases Nat.eq_zero_or_pos i with h0 | h0
        · subst h0
          simp [ordB]
        · have hw : wrap64 ((i : Int) - 1) = ((i - 1 : Nat) : Int) := by unfold wrap64; omega
          have hr : rd_T32 l ((i - 1 : Nat) : Int) = l.getD (i - 1) z32 := by unfold rd_T32; rw [Int.toNat_natCast]
          rw [if_pos (by omega), hw, hr]
          unfold ordB
          rw [if_pos (by omega), if_pos (by omega), decide_eq_false (show ¬ i = 0 by omega), Bool.false_or, getD_at l i hi]
          cases Op.bytesLess ((l.getD (i - 1) z32).f0).toList ((l[i]).f0).toList <;> cases (l.take i).any (fun x => decide (x.f1 = (l[i]).f1)) <;> simp
def mets (l : List S32) (i : Nat) : List Int := ((l.take i).map (fun x => x.f1)).reverse
theorem mets_has (l : List S32) (i : Nat) (v : Int) : (mets l i).contains v = dupB l i v := by
  unfold mets dupB
  rw [Bool.eq_iff_iff, List.contains_iff_mem, List.mem_reverse, List.mem_map, List.any_eq_true]
  constructor
  · rintro ⟨x, hx, e⟩; exact ⟨x, hx, by simpa using e⟩
  · rintro ⟨x, hx, e⟩; exact ⟨x, hx, by simpa using e⟩
theorem mets_next (l : List S32) (i : Nat) (h : i < l.length) : (l[i]).f1 :: mets l i = mets l (i + 1) := by
  unfold mets
  rw [List.take_succ_eq_append_getElem h, List.map_append, List.reverse_append]
  rfl
theorem simpl_step (l : List S32) (hl : l.length ≤ 300) (next : Int) (i : Nat) (hi : i < l.length) (k : Nat) (hk : (l[i]).f0.size < k) (hs : (l[i]).f0.size ≤ 140737488351232) :
    impl_StoreOK.l0 (k + 1) l (l.length : Int) (i : Int) l next (mets l i) = if objB l next i = true then impl_StoreOK.l0 k l (l.length : Int) ((i + 1 : Nat) : Int) l next (mets l (i + 1)) else some false := by
  obtain ⟨_, hkk⟩ := keyOK_eq (l[i]).f0 hs k hk
  have hwi : wrap64 ((i : Int) + 1) = ((i + 1 : Nat) : Int) := by unfold wrap64; omega
  have hm : (mets l i).length < 4096 := by unfold mets; rw [List.length_reverse, List.length_map, List.length_take]; omega
  simp only [impl_StoreOK.l0]
  rw [if_pos (by omega), if_pos (by omega), if_pos (by omega), rd32_at l i hi, hkk]
  simp only [Option.bind_some, within_eq, if_pos hm, hwi]
  rw [mets_has, mets_next l i hi]
  unfold objB
  rw [getD_at l i hi]
  cases kOK (l[i]).f0 with
  | false => simp
  | true =>
    simp only [if_true, Bool.true_and]
    cases (decide (1 ≤ (l[i]).f1) && decide ((l[i]).f1 ≤ wrap64 (next - 1))) with
    | false => simp
    | true =>
      simp only [if_true, Bool.true_and]
      by_cases h6 : (((l[i]).f2).size : Int) > 600
      · rw [if_pos h6, decide_eq_false (show ¬ (((l[i]).f2).size : Int) ≤ 600 by omega)]
        simp
      · rw [if_neg h6, decide_eq_true (show (((l[i]).f2).size : Int) ≤ 600 by omega), Bool.true_and]
        rcases Nat.eq_zero_or_pos i with h0 | h0
        · subst h0
          cases dupB l 0 (l[0]).f1 <;> simp [ordB]
        · have hw : wrap64 ((i : Int) - 1) = ((i - 1 : Nat) : Int) := by unfold wrap64; omega
          have hr : rd_T32 l ((i - 1 : Nat) : Int) = l.getD (i - 1) z32 := by unfold rd_T32; rw [Int.toNat_natCast]
          cases dupB l i (l[i]).f1 with
          | true => simp
          | false =>
            simp only [Bool.false_eq_true, if_false]
            rw [if_pos (show (i : Int) > 0 by omega), hw, hr, if_pos (by omega), if_pos (by omega)]
            unfold ordB
            rw [decide_eq_false (show ¬ i = 0 by omega), Bool.false_or, getD_at l i hi]
            cases Op.bytesLess ((l.getD (i - 1) z32).f0).toList ((l[i]).f0).toList <;> simp
theorem sspec_loop (l : List S32) (hl : l.length ≤ 1048576) (S : Nat) (hS : S ≤ 140737488351232) (hs : ∀ x ∈ l, x.f0.size ≤ S) (next : Int) (d : Nat) : ∀ (k i : Nat), i ≤ l.length → l.length - i = d → d * (l.length + 5) + S + 5 < k →
    spec_StoreOK.l0 k (i : Int) l next = some (objsB l next i && (decide ((l.length : Int) ≤ 300) && (decide (1 ≤ next) && decide (next ≤ 1000000000)))) := by
  induction d with
  | zero =>
    intro k i hi hd hk
    obtain ⟨k, rfl⟩ : ∃ m, k = m + 1 := ⟨k - 1, by omega⟩
    obtain rfl : i = l.length := by omega
    simp only [spec_StoreOK.l0, in_eq, Option.bind_some]
    rw [if_neg (by omega), objsB_end, Bool.true_and]
    by_cases h : (l.length : Int) ≤ 300
    · rw [if_pos h, decide_eq_true h, Bool.true_and]
    · rw [if_neg h, decide_eq_false h, Bool.false_and]
  | succ d ih =>
    intro k i hi hd hk
    have hlt : i < l.length := by omega
    have hm : (d + 1) * (l.length + 5) = d * (l.length + 5) + (l.length + 5) := Nat.succ_mul _ _
    have hx := hs l[i] (List.getElem_mem hlt)
    generalize d * (l.length + 5) = D at hm ih
    rw [hm] at hk
    clear hm
    obtain ⟨k0, rfl⟩ : ∃ m, k = m + i + 3 := ⟨k - i - 3, by omega⟩
    rw [sspec_step l hl next i hlt k0 (by omega) (by omega), ih k0 (i + 1) (by omega) (by omega) (by omega), objsB_step l next i hlt]
    cases objB l next i <;> simp
theorem simpl_loop (l : List S32) (hl : l.length ≤ 300) (S : Nat) (hS : S ≤ 140737488351232) (hs : ∀ x ∈ l, x.f0.size ≤ S) (next : Int) (d : Nat) : ∀ (k i : Nat), i ≤ l.length → l.length - i = d → d + S + 5 < k →
    impl_StoreOK.l0 k l (l.length : Int) (i : Int) l next (mets l i) = some (objsB l next i) := by
  induction d with
  | zero =>
    intro k i hi hd hk
    obtain ⟨k, rfl⟩ : ∃ m, k = m + 1 := ⟨k - 1, by omega⟩
    obtain rfl : i = l.length := by omega
    simp only [impl_StoreOK.l0]
    rw [if_neg (by omega), objsB_end]
  | succ d ih =>
    intro k i hi hd hk
    have hlt : i < l.length := by omega
    have hx := hs l[i] (List.getElem_mem hlt)
    obtain ⟨k, rfl⟩ : ∃ m, k = m + 1 := ⟨k - 1, by omega⟩
    rw [simpl_step l hl next i hlt k (by omega) (by omega), ih k (i + 1) (by omega) (by omega) (by omega), objsB_step l next i hlt]
    cases objB l next i <;> simp
/-- a right store: both tell the same -/
theorem store_same (l : List S32) (hl : l.length ≤ 1048576) (S : Nat) (hS : S ≤ 140737488351232) (hs : ∀ x ∈ l, x.f0.size ≤ S) (next : Int) (k : Nat) (hk : l.length * (l.length + 5) + S + 320 < k) :
    spec_StoreOK.f k l next = some (storeB l next) ∧ impl_StoreOK.f k l next = some (storeB l next) := by
  have h1 := sspec_loop l hl S hS hs next l.length k 0 (by omega) (by omega) (by omega)
  refine ⟨h1, ?_⟩
  unfold impl_StoreOK.f storeB
  obtain ⟨k, rfl⟩ : ∃ m, k = m + 1 := ⟨k - 1, by omega⟩
  simp only [within_eq, Option.bind_some, impl_StoreOK.j0]
  cases (decide (1 ≤ next) && decide (next ≤ 1000000000)) with
  | false => simp
  | true =>
    simp only [if_true, Bool.and_true]
    by_cases h : (l.length : Int) > 300
    · rw [if_pos (decide_eq_true h), decide_eq_false (show ¬ (l.length : Int) ≤ 300 by omega)]
      simp
    · have h2 := simpl_loop l (by omega) S hS hs next l.length k 0 (by omega) (by omega) (by omega)
      rw [if_neg (by simpa using h), decide_eq_true (show (l.length : Int) ≤ 300 by omega), Bool.and_true]
      exact h2
theorem bl_irr : ∀ x : List UInt8, Op.bytesLess x x = false
  | [] => rfl
  | a :: x => by
    have ih := bl_irr x
    unfold Op.bytesLess
    rw [ih]
    simp
theorem bl_trans : ∀ x y z : List UInt8, Op.bytesLess x y = true → Op.bytesLess y z = true → Op.bytesLess x z = true
  | x, [], z, h, _ => by cases x <;> simp [Op.bytesLess] at h
  | x, b :: y, [], _, h => by simp [Op.bytesLess] at h
  | [], b :: y, c :: z, _, _ => rfl
  | a :: x, b :: y, c :: z, h1, h2 => by
    have ih := bl_trans x y z
    unfold Op.bytesLess at h1 h2 ⊢
    simp only [Bool.or_eq_true, decide_eq_true_eq, Bool.and_eq_true, beq_iff_eq] at h1 h2 ⊢
    rcases h1 with h1 | ⟨rfl, h1⟩
    · rcases h2 with h2 | ⟨rfl, h2⟩
      · exact .inl (UInt8.lt_trans h1 h2)
      · exact .inl h1
    · rcases h2 with h2 | ⟨rfl, h2⟩
      · exact .inl h2
      · exact .inr ⟨rfl, ih h1 h2⟩
theorem bl_total : ∀ x y : List UInt8, x = y ∨ Op.bytesLess x y = true ∨ Op.bytesLess y x = true
  | [], [] => .inl rfl
  | [], _ :: _ => .inr (.inl rfl)
  | _ :: _, [] => .inr (.inr rfl)
  | a :: x, b :: y => by
    have ih := bl_total x y
    unfold Op.bytesLess
    simp only [Bool.or_eq_true, decide_eq_true_eq, Bool.and_eq_true, beq_iff_eq]
    rcases Nat.lt_trichotomy a.toNat b.toNat with h | h | h
    · exact .inr (.inl (.inl (UInt8.lt_iff_toNat_lt.2 h)))
    · have e : a = b := UInt8.toNat_inj.1 h
      subst e
      rcases ih with rfl | h | h
      · exact .inl rfl
      · exact .inr (.inl (.inr ⟨rfl, h⟩))
      · exact .inr (.inr (.inr ⟨rfl, h⟩))
    · exact .inr (.inr (.inl (UInt8.lt_iff_toNat_lt.2 h)))
theorem rd148_nat (l : List S32) (i : Nat) (h : i < l.length) : rd_T32 l (i : Int) = l[i] := by
  unfold rd_T32
  rw [Int.toNat_natCast, List.getD_eq_getElem?_getD, List.getElem?_eq_getElem h]
  rfl
/-- an object into its place, as the reference sets it -/
def setL (key : ByteArray) (next : Int) (data : ByteArray) : List S32 → List S32
  | [] => [⟨key, next, data⟩]
  | x :: r => if Op.bytesLess x.f0.toList key.toList = true then x :: setL key next data r else if x.f0.toList = key.toList then ⟨key, next, data⟩ :: r else ⟨key, next, data⟩ :: x :: r
theorem setL_end (l : List S32) (hl : l.length ≤ 1048576) (next : Int) (key data : ByteArray) (k : Nat) : spec_l01Set.l0 (k + 1) key data (l.length : Int) l next = some (l ++ [⟨key, next, data⟩], wrap64 (next + 1)) := by
  have q1 : ¬ ((l.length : Int) < (l.length : Int)) := by omega
  have q2 : (0 : Int) ≤ (l.length : Int) := by omega
  have q3 : (l.length : Int) ≤ (l.length : Int) := Int.le_refl _
  have q4 : ([] : List S32).length + l.length < 3518437208883 := by rw [List.length_nil]; omega
  have q5 : l.length + [(⟨key, next, data⟩ : S32)].length < 3518437208883 := by rw [List.length_singleton]; omega
  have q6 : (l ++ [(⟨key, next, data⟩ : S32)]).length + ([] : List S32).length < 3518437208883 := by rw [List.length_append, List.length_singleton, List.length_nil]; omega
  rw [spec_l01Set.l0, if_neg q1, if_pos q2, if_pos q3, Option.bind_some, Int.toNat_natCast, List.drop_length, Option.bind_some, Option.bind_some, List.take_length, if_pos q4, Option.bind_some, List.nil_append, Option.bind_some, if_pos q5, Option.bind_some, if_pos q6, List.append_nil]
theorem setL_here (l : List S32) (hl : l.length ≤ 1048576) (next : Int) (key data : ByteArray) (k i : Nat) (hlt : i < l.length) (h : Op.bytesLess l[i].f0.toList key.toList ≠ true) : spec_l01Set.l0 (k + 1) key data (i : Int) l next = some (l.take i ++ (if l[i].f0.toList = key.toList then ⟨key, next, data⟩ :: l.drop (i + 1) else ⟨key, next, data⟩ :: l.drop i), wrap64 (next + 1)) := by
  have hw : wrap64 ((i : Int) + 1) = ((i + 1 : Nat) : Int) := by unfold wrap64; omega
  have q1 : (i : Int) < (l.length : Int) := by omega
  have q2 : (0 : Int) ≤ (i : Int) := by omega
  have q3 : (i : Int) ≤ (l.length : Int) := by omega
  have q7 : (0 : Int) ≤ ((i + 1 : Nat) : Int) := by omega
  have q8 : ((i + 1 : Nat) : Int) ≤ (l.length : Int) := by omega
  have r0 : (l.take i).length = i := by rw [List.length_take, Nat.min_eq_left (by omega)]
  have r1 : ([] : List S32).length + (l.take i).length < 3518437208883 := by rw [List.length_nil, r0]; omega
  have r2 : (l.take i).length + [(⟨key, next, data⟩ : S32)].length < 3518437208883 := by rw [List.length_singleton, r0]; omega
  have r3 : (l.take i ++ [(⟨key, next, data⟩ : S32)]).length + (l.drop (i + 1)).length < 3518437208883 := by rw [List.length_append, List.length_singleton, r0, List.length_drop]; omega
  have r4 : (l.take i ++ [(⟨key, next, data⟩ : S32)]).length + (l.drop i).length < 3518437208883 := by rw [List.length_append, List.length_singleton, r0, List.length_drop]; omega
  rw [spec_l01Set.l0, if_pos q1, if_pos q2, rd148_nat l i hlt, if_neg h, if_pos q3, Option.bind_some, hw]
  by_cases c2 : l[i].f0.toList = key.toList
  · rw [if_pos c2, if_pos c2, if_pos q7, if_pos q8, Option.bind_some, Option.bind_some, Option.bind_some, Int.toNat_natCast, Int.toNat_natCast, if_pos r1, Option.bind_some, List.nil_append, Option.bind_some, if_pos r2, Option.bind_some, if_pos r3, List.append_assoc]
    rfl
  · rw [if_neg c2, if_neg c2, Option.bind_some, Option.bind_some, Int.toNat_natCast, if_pos r1, Option.bind_some, List.nil_append, Option.bind_some, if_pos r2, Option.bind_some, if_pos r4, List.append_assoc]
    rfl
theorem setL_loop (l : List S32) (hl : l.length ≤ 1048576) (next : Int) (key data : ByteArray) (d : Nat) : ∀ (k i : Nat), i ≤ l.length → l.length - i = d → d < k → spec_l01Set.l0 k key data (i : Int) l next = some (l.take i ++ setL key next data (l.drop i), wrap64 (next + 1)) := by
  induction d with
  | zero =>
    intro k i hi hd hk
    obtain ⟨k, rfl⟩ : ∃ m, k = m + 1 := ⟨k - 1, by omega⟩
    obtain rfl : i = l.length := by omega
    rw [setL_end l hl, List.take_length, List.drop_length]
    rfl
  | succ d ih =>
    intro k i hi hd hk
    obtain ⟨k, rfl⟩ : ∃ m, k = m + 1 := ⟨k - 1, by omega⟩
    have hlt : i < l.length := by omega
    have hset : setL key next data (l.drop i) = if Op.bytesLess l[i].f0.toList key.toList = true then l[i] :: setL key next data (l.drop (i + 1)) else if l[i].f0.toList = key.toList then ⟨key, next, data⟩ :: l.drop (i + 1) else ⟨key, next, data⟩ :: l.drop i := by
      rw [List.drop_eq_getElem_cons hlt]; rfl
    rw [hset]
    by_cases c1 : Op.bytesLess l[i].f0.toList key.toList = true
    · have hw : wrap64 ((i : Int) + 1) = ((i + 1 : Nat) : Int) := by unfold wrap64; omega
      rw [spec_l01Set.l0, if_pos (by omega), if_pos (by omega), rd148_nat l i hlt, if_pos c1, if_pos c1, hw, ih k (i + 1) (by omega) (by omega) (by omega), List.take_succ_eq_append_getElem hlt, List.append_assoc]
      rfl
    · rw [if_neg c1, setL_here l hl next key data k i hlt c1]
theorem setL_mem (key : ByteArray) (next : Int) (data : ByteArray) : ∀ (l : List S32) (y : S32), y ∈ setL key next data l → y = ⟨key, next, data⟩ ∨ y ∈ l
  | [], y, h => by simp [setL] at h; exact .inl h
  | x :: r, y, h => by
    unfold setL at h
    split at h
    · rcases List.mem_cons.1 h with rfl | h
      · exact .inr (List.mem_cons_self ..)
      · rcases setL_mem key next data r y h with h | h
        · exact .inl h
        · exact .inr (List.mem_cons_of_mem _ h)
    · split at h
      · rcases List.mem_cons.1 h with rfl | h
        · exact .inl rfl
        · exact .inr (List.mem_cons_of_mem _ h)
      · rcases List.mem_cons.1 h with rfl | h
        · exact .inl rfl
        · exact .inr h
theorem setL_len (key : ByteArray) (next : Int) (data : ByteArray) : ∀ l : List S32, (setL key next data l).length ≤ l.length + 1
  | [] => by simp [setL]
  | x :: r => by
    have ih := setL_len key next data r
    unfold setL
    split
    · simp; omega
    · split <;> simp
def lessK (x y : S32) : Prop := Op.bytesLess x.f0.toList y.f0.toList = true
theorem setL_sorted (key : ByteArray) (next : Int) (data : ByteArray) : ∀ l : List S32, l.Pairwise lessK → (setL key next data l).Pairwise lessK
  | [], _ => List.pairwise_singleton _ _
  | x :: r, h => by
    obtain ⟨h1, h2⟩ := List.pairwise_cons.1 h
    have ih := setL_sorted key next data r h2
    unfold setL
    split
    · rename_i hx
      refine List.pairwise_cons.2 ⟨fun y hy => ?_, ih⟩
      rcases setL_mem key next data r y hy with rfl | hy
      · exact hx
      · exact h1 y hy
    · rename_i hx
      split
      · rename_i he
        refine List.pairwise_cons.2 ⟨fun y hy => ?_, h2⟩
        have := h1 y hy
        unfold lessK at this ⊢
        rw [he] at this
        exact this
      · rename_i he
        have hlt : Op.bytesLess key.toList x.f0.toList = true := by
          rcases bl_total key.toList x.f0.toList with e | e | e
          · exact absurd e.symm he
          · exact e
          · exact absurd e hx
        refine List.pairwise_cons.2 ⟨fun y hy => ?_, h⟩
        rcases List.mem_cons.1 hy with rfl | hy
        · exact hlt
        · exact bl_trans _ _ _ hlt (h1 y hy)
theorem setL_vers (key : ByteArray) (next : Int) (data : ByteArray) : ∀ l : List S32, (∀ x ∈ l, x.f1 < next) → l.Pairwise (fun x y => x.f1 ≠ y.f1) → (setL key next data l).Pairwise (fun x y => x.f1 ≠ y.f1)
  | [], _, _ => List.pairwise_singleton _ _
  | x :: r, hb, h => by
    obtain ⟨h1, h2⟩ := List.pairwise_cons.1 h
    have hr : ∀ y ∈ r, y.f1 < next := fun y hy => hb y (List.mem_cons_of_mem _ hy)
    have ih := setL_vers key next data r hr h2
    have hx := hb x (List.mem_cons_self ..)
    unfold setL
    split
    · refine List.pairwise_cons.2 ⟨fun y hy => ?_, ih⟩
      rcases setL_mem key next data r y hy with rfl | hy
      · exact fun e => by have e' : x.f1 = next := e; omega
      · exact h1 y hy
    · split
      · refine List.pairwise_cons.2 ⟨fun y hy e => ?_, h2⟩
        have := hr y hy
        have e' : next = y.f1 := e
        omega
      · refine List.pairwise_cons.2 ⟨fun y hy e => ?_, h⟩
        have := hb y hy
        have e' : next = y.f1 := e
        omega
/-- a small store that is right -/
structure Inv (l : List S32) (next n : Int) : Prop where
  srt : l.Pairwise lessK
  ver : l.Pairwise (fun x y => x.f1 ≠ y.f1)
  obj : ∀ x ∈ l, kOK x.f0 = true ∧ x.f0.size ≤ 30 ∧ 1 ≤ x.f1 ∧ x.f1 < next ∧ x.f2.size ≤ 30
  lo : 1 ≤ next
  hi : next ≤ n
  len : (l.length : Int) < n
  big : n ≤ 40
theorem Inv.more {l : List S32} {next n m : Int} (h : Inv l next n) (hm : n ≤ m) (hb : m ≤ 40) : Inv l next m := ⟨h.srt, h.ver, h.obj, h.lo, Int.le_trans h.hi hm, Int.lt_of_lt_of_le h.len hm, hb⟩
theorem Inv.set {l : List S32} {next n : Int} (h : Inv l next n) (hn : n + 1 ≤ 40) (key data : ByteArray) (hk : kOK key = true) (hs : key.size ≤ 30) (hd : data.size ≤ 30) : Inv (setL key next data l) (next + 1) (n + 1) := by
  have h1 := setL_len key next data l
  have hlo := h.lo
  have hhi := h.hi
  have hlen := h.len
  refine ⟨setL_sorted key next data l h.srt, setL_vers key next data l (fun x hx => (h.obj x hx).2.2.2.1) h.ver, fun y hy => ?_, by omega, by omega, by omega, hn⟩
  rcases setL_mem key next data l y hy with rfl | hy
  · exact ⟨hk, hs, hlo, by show next < next + 1; omega, hd⟩
  · obtain ⟨a, b, c, d, e⟩ := h.obj y hy
    exact ⟨a, b, c, by omega, e⟩
theorem Inv.sub {l m : List S32} {next n : Int} (h : Inv l next n) (s : m.Sublist l) : Inv m next n :=
  ⟨h.srt.sublist s, h.ver.sublist s, fun x hx => h.obj x (s.subset hx), h.lo, h.hi, by have := s.length_le; have := h.len; omega, h.big⟩
theorem Inv.l41 {l : List S32} {next n : Int} (h : Inv l next n) : l.length ≤ 40 := by have := h.len; have := h.big; omega
theorem Inv.objs {l : List S32} {next n : Int} (h : Inv l next n) : objsB l next 0 = true := by
  unfold objsB
  rw [List.drop_zero, List.all_eq_true]
  intro j hj
  have hj := List.mem_range.1 hj
  have e := getD_at l j hj
  obtain ⟨a, b, c, d, f⟩ := h.obj l[j] (List.getElem_mem hj)
  have hb := h.big
  have hhi := h.hi
  have hw : wrap64 (next - 1) = next - 1 := by have := h.lo; unfold wrap64; omega
  have ho : ordB l j = true := by
    unfold ordB
    by_cases h0 : j = 0
    · simp [h0]
    · have := List.pairwise_iff_getElem.1 h.srt (j - 1) j (by omega) hj (by omega)
      rw [e, getD_at l (j - 1) (by omega)]
      rw [show Op.bytesLess l[j - 1].f0.toList l[j].f0.toList = true from this]
      simp
  have hdu : dupB l j (l[j]).f1 = false := by
    unfold dupB
    rw [List.any_eq_false]
    intro x hx
    rw [decide_eq_true_eq]
    obtain ⟨i, hi, rfl⟩ := List.mem_iff_getElem.1 hx
    rw [List.getElem_take]
    have hij : i < j := by simp at hi; omega
    exact List.pairwise_iff_getElem.1 h.ver i j (by omega) hj hij
  unfold objB
  rw [e, a, ho, hdu, hw]
  simp only [Bool.true_and, Bool.not_false, Bool.and_true, Bool.and_eq_true, decide_eq_true_eq]
  omega
theorem Inv.store {l : List S32} {next n : Int} (h : Inv l next n) : storeB l next = true := by
  unfold storeB
  rw [h.objs]
  have := h.len
  have := h.big
  have := h.lo
  have := h.hi
  simp only [Bool.true_and, Bool.and_eq_true, decide_eq_true_eq]
  omega
theorem inv_new : Inv [] 1 2 := ⟨.nil, .nil, by simp, by decide, by decide, by decide, by decide⟩
/-- how the reference finds -/
def findZ : List S32 → ByteArray → Nat → Int
  | [], _, _ => -1
  | x :: r, key, i => if x.f0.toList = key.toList then (i : Int) else findZ r key (i + 1)
theorem findZ_loop (l : List S32) (hl : l.length ≤ 1048576) (next : Int) (key : ByteArray) (d : Nat) : ∀ (k i : Nat), i ≤ l.length → l.length - i = d → d < k → spec_l01Find.l0 k key (i : Int) l next = some (findZ (l.drop i) key i) := by
  induction d with
  | zero =>
    intro k i hi hd hk
    obtain ⟨k, rfl⟩ : ∃ m, k = m + 1 := ⟨k - 1, by omega⟩
    simp only [spec_l01Find.l0]
    rw [if_neg (by omega), List.drop_of_length_le (by omega)]
    rfl
  | succ d ih =>
    intro k i hi hd hk
    obtain ⟨k, rfl⟩ : ∃ m, k = m + 1 := ⟨k - 1, by omega⟩
    have hlt : i < l.length := by omega
    have hw : wrap64 ((i : Int) + 1) = ((i + 1 : Nat) : Int) := by unfold wrap64; omega
    simp only [spec_l01Find.l0]
    rw [if_pos (by omega), if_pos (by omega), rd148_nat l i hlt, hw, List.drop_eq_getElem_cons hlt]
    show _ = some (if l[i].f0.toList = key.toList then (i : Int) else findZ (l.drop (i + 1)) key (i + 1))
    by_cases c : l[i].f0.toList = key.toList
    · rw [if_pos c, if_pos c]
    · rw [if_neg c, if_neg c]; exact ih k (i + 1) (by omega) (by omega) (by omega)
theorem findZ_in (key : ByteArray) : ∀ (l : List S32) (i : Nat), findZ l key i = -1 ∨ ∃ t, t < l.length ∧ findZ l key i = ((i + t : Nat) : Int)
  | [], i => .inl rfl
  | x :: r, i => by
    show (if _ then _ else _) = _ ∨ _
    by_cases c : x.f0.toList = key.toList
    · refine .inr ⟨0, by simp, ?_⟩
      show (if _ then _ else _) = _
      rw [if_pos c]; rfl
    · rw [if_neg c]
      rcases findZ_in key r (i + 1) with h | ⟨t, h1, h2⟩
      · exact .inl h
      · refine .inr ⟨t + 1, by simp; omega, ?_⟩
        show (if _ then _ else _) = _
        rw [if_neg c, h2]; omega
theorem zfind_eq (l : List S32) (hl : l.length ≤ 1048576) (next : Int) (key : ByteArray) (k : Nat) (hk : l.length < k) : ∃ z, spec_l01Find.f k l next key = some z ∧ (z = -1 ∨ ∃ t : Nat, t < l.length ∧ z = (t : Int)) := by
  have := findZ_loop l hl next key l.length k 0 (by omega) (by omega) hk
  refine ⟨_, this, ?_⟩
  rcases findZ_in key (l.drop 0) 0 with h | ⟨t, h1, h2⟩
  · exact .inl h
  · rw [List.drop_zero] at h1
    exact .inr ⟨t, h1, by rw [h2]; simp⟩
theorem zroom_eq {l : List S32} {next n : Int} (h : Inv l next n) (key data : ByteArray) (hd : data.size ≤ 30) (k : Nat) (hk : 60 < k) : spec_l01Room.f k l next key data = some 0 := by
  obtain ⟨z, hz, _⟩ := zfind_eq l (by have := h.l41; omega) next key k (by have := h.l41; omega)
  have := h.l41
  have := h.hi
  have := h.big
  unfold spec_l01Room.f
  rw [if_neg (by omega), hz, Option.bind_some]
  split
  · rw [if_neg (by omega), if_neg (by omega)]
  · rw [if_neg (by omega)]
theorem zset_eq {l : List S32} {next n : Int} (h : Inv l next n) (key data : ByteArray) (k : Nat) (hk : 60 < k) : spec_l01Set.f k l next key data = some (setL key next data l, next + 1) := by
  have := h.l41
  have := setL_loop l (by omega) next key data l.length k 0 (by omega) (by omega) (by omega)
  have hw : wrap64 (next + 1) = next + 1 := by have := h.lo; have := h.hi; have := h.big; unfold wrap64; omega
  rw [hw] at this
  exact this
theorem zabsent {l : List S32} {next n : Int} (h : Inv l next n) (hn : n + 1 ≤ 40) (key data : ByteArray) (hk : kOK key = true) (hs : key.size ≤ 30) (hd : data.size ≤ 30) (k : Nat) (hk' : 60 < k) : ∃ l' next' c, spec_l01Absent.f k l next key data = some (l', next', c) ∧ Inv l' next' (n + 1) := by
  obtain ⟨z, hz, _⟩ := zfind_eq l (by have := h.l41; omega) next key k (by have := h.l41; omega)
  unfold spec_l01Absent.f
  rw [hz, Option.bind_some]
  by_cases c : z ≥ 0
  · rw [if_pos c]; exact ⟨_, _, _, rfl, h.more (by omega) hn⟩
  · rw [if_neg c, zroom_eq h key data hd k hk', Option.bind_some, if_pos rfl, zset_eq h key data k hk', Option.bind_some]
    exact ⟨_, _, _, rfl, h.set hn key data hk hs hd⟩
theorem zget {l : List S32} {next n : Int} (h : Inv l next n) (key : ByteArray) (k : Nat) (hk : 60 < k) : ∃ d v, spec_l01Get.f k l next key = some (d, v) := by
  obtain ⟨z, hz, hz2⟩ := zfind_eq l (by have := h.l41; omega) next key k (by have := h.l41; omega)
  unfold spec_l01Get.f
  rw [hz, Option.bind_some]
  rcases hz2 with rfl | ⟨t, ht, rfl⟩
  · exact ⟨_, _, rfl⟩
  · rw [if_neg (by omega), if_pos (by omega), if_pos (by omega)]; exact ⟨_, _, rfl⟩
theorem zover {l : List S32} {next n : Int} (h : Inv l next n) (hn : n + 1 ≤ 40) (key : ByteArray) (ver : Int) (data : ByteArray) (hk : kOK key = true) (hs : key.size ≤ 30) (hd : data.size ≤ 30) (k : Nat) (hk' : 60 < k) : ∃ l' next' c, spec_l01Over.f k l next key ver data = some (l', next', c) ∧ Inv l' next' (n + 1) := by
  obtain ⟨d, v, hg⟩ := zget h key k hk'
  unfold spec_l01Over.f
  rw [hg, Option.bind_some]
  dsimp only
  by_cases c : v = 0
  · rw [if_pos c]; exact ⟨_, _, _, rfl, h.more (by omega) hn⟩
  · rw [if_neg c]
    by_cases c2 : v = ver
    · rw [if_pos c2, zroom_eq h key data hd k hk', Option.bind_some, if_pos rfl, zset_eq h key data k hk', Option.bind_some]
      exact ⟨_, _, _, rfl, h.set hn key data hk hs hd⟩
    · rw [if_neg c2]; exact ⟨_, _, _, rfl, h.more (by omega) hn⟩
theorem zdelete {l : List S32} {next n : Int} (h : Inv l next n) (hn : n + 1 ≤ 40) (key : ByteArray) (ver : Int) (k : Nat) (hk' : 60 < k) : ∃ l' next' c, spec_l01Delete.f k l next key ver = some (l', next', c) ∧ Inv l' next' (n + 1) := by
  have h41 := h.l41
  obtain ⟨z, hz, hz2⟩ := zfind_eq l (by omega) next key k (by omega)
  unfold spec_l01Delete.f
  rw [hz, Option.bind_some]
  rcases hz2 with rfl | ⟨t, ht, rfl⟩
  · exact ⟨_, _, _, rfl, h.more (by omega) hn⟩
  · have hw : wrap64 ((t : Int) + 1) = ((t + 1 : Nat) : Int) := by unfold wrap64; omega
    rw [if_neg (by omega), if_pos (by omega), if_pos (by omega)]
    by_cases c : (rd_T32 l (t : Int)).f1 = ver
    · have q1 : ([] : List S32).length + (l.take t).length < 3518437208883 := by simp; omega
      have q2 : (l.take t).length + (l.drop (t + 1)).length < 3518437208883 := by simp; omega
      have q3 : (t : Int) ≤ (l.length : Int) := by omega
      have q4 : (0 : Int) ≤ ((t + 1 : Nat) : Int) := by omega
      have q5 : ((t + 1 : Nat) : Int) ≤ (l.length : Int) := by omega
      rw [if_pos c]
      simp only [Option.bind_some, if_pos q3, Int.toNat_natCast, if_pos q1, List.nil_append, hw, if_pos q4, if_pos q5, if_pos q2]
      refine ⟨_, _, _, rfl, (h.sub ?_).more (by omega) hn⟩
      have : (l.take t ++ l.drop (t + 1)).Sublist (l.take t ++ l.drop t) := List.Sublist.append (List.Sublist.refl _) (by rw [List.drop_eq_getElem_cons ht]; exact List.sublist_cons_self _ _)
      rwa [List.take_append_drop] at this
    · rw [if_neg c]; exact ⟨_, _, _, rfl, h.more (by omega) hn⟩
theorem strOfNums_size (xs : List Int) : (strOfNums xs).size = xs.length := by
  unfold strOfNums
  simp [ByteArray.size]
theorem some_loop {c : List Int} (hc : Bytes c) (m : Nat) (hm : m ≤ 30) : ∀ (d k : Nat) (out : List Int) (i : Nat) (p s : Int), d < k → i + d = m → out.length = i → 0 ≤ p → p + d ≤ 90000 → 0 ≤ s → s < 2147483648 →
    ∃ t s', spec_l00Src_some.l0 k (m : Int) out (i : Int) c p s = some (t, p + d, s') ∧ t.size ≤ 30 ∧ 0 ≤ s' ∧ s' < 2147483648
  | 0, k, out, i, p, s, hk, hi, ho, h4, h5, h6, h7 => by
    obtain ⟨k, rfl⟩ : ∃ m, k = m + 1 := ⟨k - 1, by omega⟩
    refine ⟨strOfNums out, s, ?_, by rw [strOfNums_size]; omega, h6, h7⟩
    simp only [spec_l00Src_some.l0]
    rw [if_neg (by omega)]
    simp
  | d + 1, k, out, i, p, s, hk, hi, ho, h4, h5, h6, h7 => by
    obtain ⟨k, rfl⟩ : ∃ m, k = m + 1 := ⟨k - 1, by omega⟩
    obtain ⟨v1, s1, e1, a1, b1, c1, d1⟩ := next_ok hc p s 26 h4 (by omega) h6 h7 (by decide) (by decide)
    have hw : wrap64 ((i : Int) + 1) = ((i + 1 : Nat) : Int) := by unfold wrap64; omega
    obtain ⟨t, s', hL, h8, h9, h10⟩ := some_loop hc m hm d k (out ++ [(wrap64 (97 + v1)) % 256]) (i + 1) (p + 1) s1 (by omega) (by omega) (by simp; omega) (by omega) (by omega) c1 d1
    refine ⟨t, s', ?_, h8, h9, h10⟩
    simp only [spec_l00Src_some.l0]
    rw [if_pos (by omega), e1, Option.bind_some]
    dsimp only
    rw [if_pos (by omega), hw, hL]
    congr 3
    omega
theorem some_ok {c : List Int} (hc : Bytes c) (k : Nat) (p s m : Int) (hk : 60 < k) (h0 : 0 ≤ m) (hm : m ≤ 30) (h4 : 0 ≤ p) (h5 : p ≤ 80000) (h6 : 0 ≤ s) (h7 : s < 2147483648) : ∃ t s', spec_l00Src_some.f k c p s m = some (t, p + m, s') ∧ t.size ≤ 30 ∧ 0 ≤ s' ∧ s' < 2147483648 := by
  obtain ⟨m, rfl⟩ : ∃ m' : Nat, m = (m' : Int) := ⟨m.toNat, by omega⟩
  exact some_loop hc m (by omega) m k [] 0 p s (by omega) (by omega) rfl h4 (by omega) h6 h7
theorem bt_lit (cs : List UInt8) (i : Nat) (h : i < cs.length) : bt ⟨cs.toArray⟩ (i : Int) = (cs[i].toNat : Int) := by
  unfold bt
  rw [dif_pos (show ((i : Int).toNat) < (⟨cs.toArray⟩ : ByteArray).size by simpa [ByteArray.size] using h)]
  rfl
theorem kOK_lit (cs : List UInt8) (h : (cs.all fun c => kb (c.toNat : Int)) = true) (h1 : 1 ≤ cs.length) (h2 : cs.length ≤ 30) : kOK ⟨cs.toArray⟩ = true := by
  have hs : (⟨cs.toArray⟩ : ByteArray).size = cs.length := by simp [ByteArray.size]
  unfold kOK kFrom
  rw [hs, Bool.and_eq_true, List.drop_zero]
  refine ⟨?_, by simp only [Bool.and_eq_true, decide_eq_true_eq]; omega⟩
  rw [List.all_eq_true]
  intro j hj
  have hj := List.mem_range.1 hj
  rw [bt_lit cs j hj]
  exact List.all_eq_true.1 h _ (List.getElem_mem hj)
theorem shortKey_ok {c : List Int} (hc : Bytes c) (p s : Int) (h4 : 0 ≤ p) (h5 : p ≤ 80000) (h6 : 0 ≤ s) (h7 : s < 2147483648) : ∃ t s', spec_l00Src_shortKey.f c p s = some (t, p + 1, s') ∧ kOK t = true ∧ t.size ≤ 30 ∧ 0 ≤ s' ∧ s' < 2147483648 := by
  obtain ⟨v1, s1, e1, a1, b1, c1, d1⟩ := next_ok hc p s 5 h4 (by omega) h6 h7 (by decide) (by decide)
  unfold spec_l00Src_shortKey.f spec_l00Src_pick.f
  have hl : (([(⟨#[97, 47, 49]⟩ : ByteArray), (⟨#[97, 47, 50]⟩ : ByteArray), (⟨#[98, 47, 49]⟩ : ByteArray), (⟨#[98, 47, 49, 48]⟩ : ByteArray), (⟨#[108, 101, 97, 115, 101]⟩ : ByteArray)] : List ByteArray).length : Int) = 5 := rfl
  rw [hl, if_neg (by decide), e1, Option.bind_some]
  dsimp only
  rw [if_pos a1, if_pos b1, Option.bind_some]
  have hv : v1 = 0 ∨ v1 = 1 ∨ v1 = 2 ∨ v1 = 3 ∨ v1 = 4 := by omega
  have k1 : kOK (⟨#[97, 47, 49]⟩ : ByteArray) = true := kOK_lit [97, 47, 49] (by decide) (by decide) (by decide)
  have k2 : kOK (⟨#[97, 47, 50]⟩ : ByteArray) = true := kOK_lit [97, 47, 50] (by decide) (by decide) (by decide)
  have k3 : kOK (⟨#[98, 47, 49]⟩ : ByteArray) = true := kOK_lit [98, 47, 49] (by decide) (by decide) (by decide)
  have k4 : kOK (⟨#[98, 47, 49, 48]⟩ : ByteArray) = true := kOK_lit [98, 47, 49, 48] (by decide) (by decide) (by decide)
  have k5 : kOK (⟨#[108, 101, 97, 115, 101]⟩ : ByteArray) = true := kOK_lit [108, 101, 97, 115, 101] (by decide) (by decide) (by decide)
  rcases hv with rfl | rfl | rfl | rfl | rfl
  · exact ⟨_, _, rfl, k1, by show (3 : Nat) ≤ 30; decide, c1, d1⟩
  · exact ⟨_, _, rfl, k2, by show (3 : Nat) ≤ 30; decide, c1, d1⟩
  · exact ⟨_, _, rfl, k3, by show (3 : Nat) ≤ 30; decide, c1, d1⟩
  · exact ⟨_, _, rfl, k4, by show (4 : Nat) ≤ 30; decide, c1, d1⟩
  · exact ⟨_, _, rfl, k5, by show (5 : Nat) ≤ 30; decide, c1, d1⟩
theorem plain_loop {c : List Int} (hc : Bytes c) : ∀ (d k : Nat) (l : List S32) (next n p s : Int), d + 60 < k → Inv l next n → n + d ≤ 30 → 0 ≤ p → p + 20 * d ≤ 70000 → 0 ≤ s → s < 2147483648 →
    ∃ l' next' p' s', spec_l00Src_plainStore.l0 k (d : Int) c p s l next = some (l', next', p', s') ∧ Inv l' next' 30
  | 0, k, l, next, n, p, s, hk, hI, hn, h4, h5, h6, h7 => by
    obtain ⟨k, rfl⟩ : ∃ m, k = m + 1 := ⟨k - 1, by omega⟩
    have := hI.l41
    refine ⟨l, next, p, s, ?_, hI.more (by omega) (by decide)⟩
    simp only [spec_l00Src_plainStore.l0]
    rw [if_neg (by omega)]
    unfold spec_l01Own.f
    rw [Option.bind_some, if_pos (by simp; omega)]
    rfl
  | d + 1, k, l, next, n, p, s, hk, hI, hn, h4, h5, h6, h7 => by
    obtain ⟨k, rfl⟩ : ∃ m, k = m + 1 := ⟨k - 1, by omega⟩
    have hk' : 60 < k := by omega
    have hw : wrap64 (((d + 1 : Nat) : Int) - 1) = (d : Int) := by unfold wrap64; omega
    obtain ⟨key, s1, e1, kk, ks, c1, d1⟩ := shortKey_ok hc p s h4 (by omega) h6 h7
    obtain ⟨gd, gv, e2⟩ := zget hI key k hk'
    obtain ⟨v3, s3, e3, a3, b3, c3, d3⟩ := next_ok hc (p + 1) s1 5 (by omega) (by omega) c1 d1 (by decide) (by decide)
    obtain ⟨t4, s4, e4, z4, c4, d4⟩ := some_ok hc k (p + 1 + 1) s3 v3 hk' a3 (by omega) (by omega) (by omega) c3 d3
    obtain ⟨l5, n5, q5, e5, I5⟩ := zover hI (by omega) key gv t4 kk ks z4 k hk'
    simp only [spec_l00Src_plainStore.l0]
    rw [if_pos (by omega), e1, Option.bind_some]
    dsimp only
    rw [e2, Option.bind_some, e3, Option.bind_some]
    dsimp only
    rw [e4, Option.bind_some]
    dsimp only
    rw [e5, Option.bind_some, hw]
    by_cases cv : gv = 0
    · rw [if_pos cv]
      obtain ⟨v6, s6, e6, a6, b6, c6, d6⟩ := next_ok hc (p + 1 + 1 + v3) s4 5 (by omega) (by omega) c4 d4 (by decide) (by decide)
      obtain ⟨t7, s7, e7, z7, c7, d7⟩ := some_ok hc k (p + 1 + 1 + v3 + 1) s6 v6 hk' a6 (by omega) (by omega) (by omega) c6 d6
      obtain ⟨l8, n8, q8, e8, I8⟩ := zabsent hI (by omega) key t7 kk ks z7 k hk'
      rw [e6, Option.bind_some]
      dsimp only
      rw [e7, Option.bind_some]
      dsimp only
      rw [e8, Option.bind_some]
      exact plain_loop hc d k l8 n8 (n + 1) _ s7 (by omega) I8 (by omega) (by omega) (by omega) c7 d7
    · rw [if_neg cv]
      obtain ⟨v6, s6, e6, a6, b6, c6, d6⟩ := next_ok hc (p + 1 + 1 + v3) s4 4 (by omega) (by omega) c4 d4 (by decide) (by decide)
      unfold spec_l00Src_chance.f
      rw [e6, Option.bind_some, Option.bind_some]
      dsimp only
      by_cases cb : (v6 == wrap64 (4 - 1)) = true
      · rw [if_pos cb]
        obtain ⟨l8, n8, q8, e8, I8⟩ := zdelete hI (by omega) key gv k hk'
        rw [e8, Option.bind_some]
        exact plain_loop hc d k l8 n8 (n + 1) _ s6 (by omega) I8 (by omega) (by omega) (by omega) c6 d6
      · rw [if_neg cb]
        exact plain_loop hc d k l5 n5 (n + 1) _ s6 (by omega) I5 (by omega) (by omega) (by omega) c6 d6
/-- what is drawn is a right store -/
theorem plainStore_ok {c : List Int} (hc : Bytes c) (k : Nat) (hk : 80 < k) : ∃ l next, spec_PlainStore.f k c = some (l, next) ∧ Inv l next 30 := by
  obtain ⟨v1, s1, e1, a1, b1, c1, d1⟩ := next_ok hc 0 ((c.length : Int) % 1000) 9 (by decide) (by decide) (by omega) (by omega) (by decide) (by decide)
  obtain ⟨d, rfl⟩ : ∃ d : Nat, v1 = (d : Int) := ⟨v1.toNat, by omega⟩
  obtain ⟨l', next', p', s', e2, I2⟩ := plain_loop hc d k [] 1 2 (0 + 1) s1 (by omega) inv_new (by omega) (by decide) (by omega) c1 d1
  unfold spec_PlainStore.f spec_l00Src_plainStore.f spec_NewStore.f
  rw [source_eq, Option.bind_some, Option.bind_some]
  dsimp only
  rw [e1, Option.bind_some]
  dsimp only
  rw [e2, Option.bind_some]
  exact ⟨_, _, rfl, I2⟩
/-- whether a text begins so -/
def preB (s p : ByteArray) : Bool := if (p.size : Int) ≤ (s.size : Int) then (s.extract 0 p.size).toList == p.toList else false
theorem spre_eq (s p : ByteArray) : spec_l01Prefix.f s p = some (preB s p) := by
  unfold spec_l01Prefix.f preB
  by_cases h : (p.size : Int) ≤ (s.size : Int)
  · have h0 : (0 : Int) ≤ (p.size : Int) := by omega
    simp only [ge_iff_le, if_pos h, if_pos h0, Int.toNat_natCast]
  · simp only [ge_iff_le, if_neg h]
theorem ipre_eq (s p : ByteArray) : strings_HasPrefix.f s p = some (preB s p) := by
  unfold strings_HasPrefix.f stringslite_HasPrefix.f preB
  by_cases h : (p.size : Int) ≤ (s.size : Int)
  · have h0 : (0 : Int) ≤ (p.size : Int) := by omega
    simp only [ge_iff_le, if_pos h, if_pos h0, Int.toNat_natCast, Option.bind_some]
  · simp only [ge_iff_le, if_neg h, Option.bind_some]
/-- the keys that begin so -/
def pk (l : List S32) (p : ByteArray) : List ByteArray := (l.filter fun x => preB x.f0 p).map (·.f0)
theorem pk_len (l : List S32) (p : ByteArray) : (pk l p).length ≤ l.length := by
  unfold pk
  rw [List.length_map]
  exact List.length_filter_le _ _
theorem pk_cons (x : S32) (l : List S32) (p : ByteArray) : pk (x :: l) p = if preB x.f0 p = true then x.f0 :: pk l p else pk l p := by
  unfold pk
  rw [List.filter_cons]
  cases preB x.f0 p <;> simp
theorem rd_nat (l : List S32) (i : Nat) (h : i < l.length) : rd_T32 l (i : Int) = l[i] := by
  unfold rd_T32
  rw [Int.toNat_natCast, List.getD_eq_getElem?_getD, List.getElem?_eq_getElem h]
  rfl
theorem ikeys_loop (l : List S32) (hl : l.length ≤ 1048576) (p : ByteArray) : ∀ (d k i : Nat) (out : List ByteArray), i + d = l.length → d < k → out.length ≤ i → impl_Store_keys.l0 k p out l (l.length : Int) (i : Int) = some (out ++ pk (l.drop i) p)
  | 0, 0, _, _, _, hk, _ => by omega
  | d + 1, 0, _, _, _, hk, _ => by omega
  | 0, k + 1, i, out, hi, _, _ => by
    simp only [impl_Store_keys.l0]
    rw [if_neg (by omega), List.drop_eq_nil_of_le (by omega)]
    simp [pk]
  | d + 1, k + 1, i, out, hi, hk, ho => by
    have h : i < l.length := by omega
    have hw : wrap64 ((i : Int) + 1) = ((i + 1 : Nat) : Int) := by unfold wrap64; omega
    simp only [impl_Store_keys.l0]
    rw [if_pos (by omega), if_pos (by omega), if_pos (by omega), rd_nat l i h, ipre_eq, Option.bind_some, hw, List.drop_eq_getElem_cons h, pk_cons]
    cases hp : preB l[i].f0 p with
    | true =>
      rw [if_pos rfl, if_pos rfl, if_pos (by omega), ikeys_loop l hl p d k (i + 1) _ (by omega) (by omega) (by rw [List.length_append]; simp; omega), List.append_assoc]
      rfl
    | false =>
      rw [if_neg (by decide), if_neg (by decide), ikeys_loop l hl p d k (i + 1) _ (by omega) (by omega) (by omega)]
def gtS (a s : ByteArray) : Bool := !Op.bytesLess s.toList a.toList && !s.toList == a.toList
theorem slist_loop (l : List S32) (hl : l.length ≤ 1048576) (next : Int) (p a : ByteArray) (n : Int) : ∀ (d k i : Nat) (out : List ByteArray), i + d = l.length → 2 * d + 2 < k → out.length ≤ i → (out.length : Int) ≤ n →
    spec_l01List.l0 k p a n out (i : Int) l next = some (out ++ ((pk (l.drop i) p).filter fun s => gtS a s).take (n.toNat - out.length))
  | 0, 0, _, _, _, hk, _, _ => by omega
  | 0, 1, _, _, _, hk, _, _ => by omega
  | d + 1, 0, _, _, _, hk, _, _ => by omega
  | d + 1, 1, _, _, _, hk, _, _ => by omega
  | 0, k + 2, i, out, hi, _, _, _ => by
    simp only [spec_l01List.l0, spec_l01List.j1]
    rw [if_neg (by omega), if_neg (by decide), List.drop_eq_nil_of_le (by omega)]
    simp [pk]
  | d + 1, k + 2, i, out, hi, hk, ho, hn => by
    have h : i < l.length := by omega
    have hw : wrap64 ((i : Int) + 1) = ((i + 1 : Nat) : Int) := by unfold wrap64; omega
    simp only [spec_l01List.l0, spec_l01List.j1]
    rw [if_pos (by omega)]
    by_cases hc : (out.length : Int) < n
    · have hm : n.toNat - out.length = (n.toNat - (out.length + 1)) + 1 := by omega
      rw [if_pos (decide_eq_true hc), if_pos (by omega), if_pos (by omega), rd_nat l i h, spre_eq, Option.bind_some, hw, List.drop_eq_getElem_cons h, pk_cons]
      cases hp : preB l[i].f0 p with
      | true =>
        have hg : (!Op.bytesLess l[i].f0.toList a.toList && !l[i].f0.toList == a.toList) = gtS a l[i].f0 := rfl
        rw [if_pos rfl, if_pos rfl, List.filter_cons, hg]
        cases hb : gtS a l[i].f0 with
        | true =>
          rw [if_pos rfl, if_pos rfl, if_pos (by omega), slist_loop l hl next p a n d k (i + 1) _ (by omega) (by omega) (by rw [List.length_append]; simp; omega) (by rw [List.length_append]; simp; omega), hm, List.take_succ_cons, List.append_assoc, List.length_append]
          rfl
        | false =>
          rw [if_neg (by decide), if_neg (by decide), slist_loop l hl next p a n d k (i + 1) _ (by omega) (by omega) (by omega) (by omega)]
      | false =>
        rw [if_neg (by decide), if_neg (by decide), slist_loop l hl next p a n d k (i + 1) _ (by omega) (by omega) (by omega) (by omega)]
    · have hm : n.toNat - out.length = 0 := by omega
      rw [if_neg (by simpa using hc), hm]
      simp
/-- what ListKeys answers -/
def listR (l : List S32) (next : Int) (p a : ByteArray) (n : Int) : List ByteArray × Int :=
  if (p.size : Int) > 65536 ∨ (a.size : Int) > 65536 then ([], 2) else if storeB l next = true then (if 0 ≤ n ∧ n ≤ 300 then (((pk l p).filter fun s => gtS a s).take n.toNat, 0) else ([], 4)) else ([], 1)
theorem listR_len (l : List S32) (next : Int) (p a : ByteArray) (n : Int) : (listR l next p a n).1.length ≤ l.length := by
  unfold listR
  split
  · simp
  · split
    · split
      · show (List.take _ _).length ≤ _
        rw [List.length_take]
        have h1 := List.length_filter_le (fun s : ByteArray => gtS a s) (pk l p)
        have h2 := pk_len l p
        omega
      · simp
    · simp
theorem slist_same (l : List S32) (hl : l.length ≤ 1048576) (hs : ∀ x ∈ l, x.f0.size ≤ 140737488351232) (next : Int) (p a : ByteArray) (n : Int) (k : Nat) (hk : l.length * (l.length + 5) + 140737488351232 + 3000000 < k) :
    spec_ListKeys.f k l next p a n = some (listR l next p a n) := by
  obtain ⟨m, rfl⟩ : ∃ m, k = m + 1 := ⟨k - 1, by omega⟩
  obtain ⟨h1, _⟩ := store_same l hl 140737488351232 (by omega) hs next m (by omega)
  unfold spec_ListKeys.f listR
  by_cases c1 : (p.size : Int) > 65536
  · rw [if_pos c1, if_pos (Or.inl c1)]
    simp only [spec_ListKeys.j0, if_true]
  · rw [if_neg c1]
    by_cases c2 : (a.size : Int) > 65536
    · rw [if_pos (Or.inr c2), decide_eq_true c2]
      simp only [spec_ListKeys.j0, if_true]
    · rw [if_neg (by rintro (h | h); exact c1 h; exact c2 h), decide_eq_false c2]
      simp only [spec_ListKeys.j0, Bool.false_eq_true, if_false, h1, Option.bind_some, in_eq]
      cases hst : storeB l next with
      | false => simp
      | true =>
        rw [if_pos rfl, if_pos rfl]
        by_cases h3 : 0 ≤ n ∧ n ≤ 300
        · rw [if_pos h3, if_pos (by rw [decide_eq_true h3.1, decide_eq_true h3.2]; rfl)]
          unfold spec_l01List.f
          have := slist_loop l hl next p a n l.length m 0 [] (by omega) (by omega) (by simp) (by simpa using h3.1)
          rw [show ((0 : Nat) : Int) = 0 from rfl] at this
          rw [this, Option.bind_some, List.nil_append, List.drop_zero, List.length_nil, Nat.sub_zero]
        · rw [if_neg h3, if_neg (by
            intro h
            rw [Bool.and_eq_true, decide_eq_true_eq, decide_eq_true_eq] at h
            exact h3 h)]
theorem ilist_same (l : List S32) (hl : l.length ≤ 1048576) (hs : ∀ x ∈ l, x.f0.size ≤ 140737488351232) (next : Int) (p a : ByteArray) (n : Int) (k : Nat) (hk : l.length * (l.length + 5) + 140737488351232 + 3000000 < k) :
    impl_ListKeys.f k l next p a n = some (listR l next p a n) := by
  obtain ⟨_, h2⟩ := store_same l hl 140737488351232 (by omega) hs next k (by omega)
  have f3 : ∀ b1 b2 b3 c1 c2 c3, impl_first.f k [anyB b1, anyI c1, anyB b2, anyI c2, anyB b3, anyI c3] = some (if b1 = true then c1 else if b2 = true then c2 else if b3 = true then c3 else 0) := by
    obtain ⟨m, rfl⟩ : ∃ m, k = m + 4 := ⟨k - 4, by omega⟩
    exact first3 m
  have hke : impl_Store_keys.f k l next p = some (pk l p) := by
    unfold impl_Store_keys.f
    have := ikeys_loop l hl p l.length k 0 [] (by omega) (by omega) (by simp)
    rw [show ((0 : Nat) : Int) = 0 from rfl] at this
    rw [this, List.nil_append, List.drop_zero]
  have hlo : impl_isLong.f [p, a] = some (decide ((p.size : Int) > 65536 ∨ (a.size : Int) > 65536)) := by
    unfold impl_isLong.f shortB
    congr 1
    rw [List.any_cons, List.any_cons, List.any_nil, Bool.or_false]
    by_cases c1 : (p.size : Int) ≤ 65536 <;> by_cases c2 : (a.size : Int) ≤ 65536 <;> simp [c1, c2] <;> omega
  have hde : slices_DeleteFunc_string_string.f (pk l p) a = some ((pk l p).filter fun s => gtS a s) := by
    unfold slices_DeleteFunc_string_string.f
    rw [if_pos (by have := pk_len l p; omega)]
    have : (fun x : ByteArray => !(leS a x)) = gtS a := by
      funext s
      unfold leS gtS
      rw [Bool.not_or]
    rw [this]
  have hfl : ((pk l p).filter fun s => gtS a s).length ≤ 1048576 := by
    have h1 := List.length_filter_le (fun s : ByteArray => gtS a s) (pk l p)
    have h2 := pk_len l p
    omega
  unfold impl_ListKeys.f listR
  simp only [hlo, h2, within_eq, f3, hke, hde, Option.bind_some]
  generalize ((pk l p).filter fun s => gtS a s) = F at hfl
  by_cases c0 : (p.size : Int) > 65536 ∨ (a.size : Int) > 65536
  · rw [decide_eq_true c0]
    simp only [if_true]
    rw [if_neg (show ¬ ((2 : Int) = 0) by decide), if_pos c0]
  · rw [decide_eq_false c0]
    simp only [Bool.false_eq_true, if_false]
    rw [if_neg c0]
    cases hst : storeB l next with
    | false => simp
    | true =>
      simp only [Bool.not_true, Bool.false_eq_true, if_false, if_true]
      by_cases h3 : 0 ≤ n ∧ n ≤ 300
      · have hm0 : 0 ≤ mn n (F.length : Int) := by unfold mn; split <;> omega
        have hm1 : mn n (F.length : Int) ≤ (F.length : Int) := by unfold mn; split <;> omega
        have ht : F.take (mn n (F.length : Int)).toNat = F.take n.toNat := by
          unfold mn
          split
          · rw [Int.toNat_natCast, List.take_length, List.take_of_length_le (by omega)]
          · rfl
        have hb : (decide (0 ≤ n) && decide (n ≤ 300)) = true := by rw [decide_eq_true h3.1, decide_eq_true h3.2]; rfl
        rw [hb]
        simp only [Bool.not_true, Bool.false_eq_true, if_false, if_true]
        rw [if_pos h3, if_pos hm0, if_pos hm1]
        unfold slices_Clone_string_string.f
        rw [Option.bind_some, if_pos (by rw [List.length_take]; simp; omega), Option.bind_some, List.nil_append, ht]
      · have hb : (decide (0 ≤ n) && decide (n ≤ 300)) = false := by
          rw [Bool.eq_false_iff]
          intro h
          rw [Bool.and_eq_true, decide_eq_true_eq, decide_eq_true_eq] at h
          exact h3 h
        rw [hb]
        simp only [Bool.not_false, if_true]
        rw [if_neg (show ¬ ((4 : Int) = 0) by decide), if_neg h3]
theorem listR_ok {l : List S32} {next : Int} (h : Inv l next 30) (p a : ByteArray) (hp : p.size ≤ 65536) (ha : a.size ≤ 65536) (n : Int) (h0 : 0 ≤ n) (h1 : n ≤ 300) : listR l next p a n = (((pk l p).filter fun s => gtS a s).take n.toNat, 0) := by
  unfold listR
  rw [if_neg (by omega), if_pos h.store, if_pos ⟨h0, h1⟩]
theorem both_list {l : List S32} {next : Int} (h : Inv l next 30) (p a : ByteArray) (hp : p.size ≤ 65536) (ha : a.size ≤ 65536) (n : Int) (h0 : 0 ≤ n) (h1 : n ≤ 300) (k : Nat) (hk : 140737491360000 < k) :
    spec_ListKeys.f k l next p a n = some (((pk l p).filter fun s => gtS a s).take n.toNat, 0) ∧ impl_ListKeys.f k l next p a n = some (((pk l p).filter fun s => gtS a s).take n.toNat, 0) := by
  have hl := h.l41
  have hs : ∀ x ∈ l, x.f0.size ≤ 140737488351232 := fun x hx => by have := (h.obj x hx).2.1; omega
  have hm : l.length * (l.length + 5) ≤ 40 * 45 := Nat.mul_le_mul hl (by omega)
  rw [← listR_ok h p a hp ha n h0 h1]
  exact ⟨slist_same l (by omega) hs next p a n k (by omega), ilist_same l (by omega) hs next p a n k (by omega)⟩
theorem sameTexts_loop (a : List ByteArray) (hl : a.length ≤ 1048576) (d : Nat) : ∀ (k i : Nat), i ≤ a.length → a.length - i = d → d < k → laws_sameTexts.l0 k a a (i : Int) = some true := by
  induction d with
  | zero =>
    intro k i hi hd hk
    obtain ⟨k, rfl⟩ : ∃ m, k = m + 1 := ⟨k - 1, by omega⟩
    simp only [laws_sameTexts.l0]
    rw [if_neg (by omega)]
  | succ d ih =>
    intro k i hi hd hk
    obtain ⟨k, rfl⟩ : ∃ m, k = m + 1 := ⟨k - 1, by omega⟩
    have hlt : i < a.length := by omega
    have hw : wrap64 ((i : Int) + 1) = ((i + 1 : Nat) : Int) := by unfold wrap64; omega
    simp only [laws_sameTexts.l0]
    rw [if_pos (by omega), if_pos (by omega), if_pos (by omega), if_pos trivial, hw]
    exact ih k (i + 1) (by omega) (by omega) (by omega)
theorem sameTexts_ok (a : List ByteArray) (hl : a.length ≤ 1048576) (k : Nat) (hk : a.length < k) : laws_sameTexts.f k a a = some true := by
  unfold laws_sameTexts.f
  rw [if_pos rfl]
  exact sameTexts_loop a hl a.length k 0 (by omega) (by omega) hk
theorem cnt_loop (l : List S32) (next : Int) (p : ByteArray) (K : List ByteArray) (hK : K.length ≤ 40) (hl : l.length ≤ 40) : ∀ (d k i c : Nat), i + d = l.length → d + 50 < k → c + d ≤ 100 →
    laws_FnList.l1 k p K 0 K K (c : Int) (i : Int) l next = some ((K.length : Int) == ((c + (pk (l.drop i) p).length : Nat) : Int))
  | 0, k, i, c, hi, hk, hc => by
    obtain ⟨k, rfl⟩ : ∃ m, k = m + 1 := ⟨k - 1, by omega⟩
    simp only [laws_FnList.l1]
    rw [if_neg (by omega), if_pos trivial, sameTexts_ok K (by omega) k (by omega), Option.bind_some, if_pos rfl, Option.bind_some, if_pos rfl, List.drop_of_length_le (by omega)]
    rfl
  | d + 1, k, i, c, hi, hk, hc => by
    obtain ⟨k, rfl⟩ : ∃ m, k = m + 1 := ⟨k - 1, by omega⟩
    have hlt : i < l.length := by omega
    have hw : wrap64 ((i : Int) + 1) = ((i + 1 : Nat) : Int) := by unfold wrap64; omega
    have hw2 : wrap64 ((c : Int) + 1) = ((c + 1 : Nat) : Int) := by unfold wrap64; omega
    have ih1 := cnt_loop l next p K hK hl d k (i + 1) (c + 1) (by omega) (by omega) (by omega)
    have ih0 := cnt_loop l next p K hK hl d k (i + 1) c (by omega) (by omega) (by omega)
    have h0 : (0 : Int) ≤ (p.size : Int) := by omega
    simp only [laws_FnList.l1, rd148_nat l i hlt, hw, hw2, ih1, ih0, Int.toNat_natCast]
    rw [if_pos (by omega), if_pos (by omega), List.drop_eq_getElem_cons hlt, pk_cons]
    unfold preB
    by_cases c1 : (p.size : Int) ≤ (l[i].f0.size : Int)
    · simp only [ge_iff_le, if_pos c1, if_pos h0]
      by_cases c2 : (l[i].f0.extract 0 p.size).toList = p.toList
      · rw [if_pos c2, if_pos (beq_iff_eq.mpr c2), List.length_cons, Nat.add_right_comm c 1, Nat.add_assoc c]
      · rw [if_neg c2, if_neg (by rw [beq_iff_eq]; exact c2)]
    · simp only [ge_iff_le, if_neg c1]
      rfl
/-- keys in their order -/
def Srt (K : List ByteArray) : Prop := K.Pairwise fun x y => Op.bytesLess x.toList y.toList = true
theorem bl_asym {x y : List UInt8} (h : Op.bytesLess x y = true) : Op.bytesLess y x = false := by
  rw [Bool.eq_false_iff]
  intro h'
  have := bl_trans _ _ _ h h'
  rw [bl_irr] at this
  cases this
theorem bl_ne {x y : List UInt8} (h : Op.bytesLess x y = true) : (y == x) = false := by
  rw [beq_eq_false_iff_ne]
  rintro rfl
  rw [bl_irr] at h
  cases h
theorem after_drop {K : List ByteArray} (hK : Srt K) (m : Nat) (hm : m < K.length) : (K.filter fun s => gtS K[m] s) = K.drop (m + 1) := by
  have a : ((K.take (m + 1)).filter fun s => gtS K[m] s) = [] := by
    rw [List.filter_eq_nil_iff]
    intro s hs
    obtain ⟨i, hi, rfl⟩ := List.mem_iff_getElem.1 hs
    rw [List.getElem_take]
    have hi' : i < m + 1 := by simp at hi; omega
    unfold gtS
    by_cases him : i = m
    · subst him; simp
    · have := List.pairwise_iff_getElem.1 hK i m (by omega) hm (by omega)
      rw [this]; simp
  have b : ((K.drop (m + 1)).filter fun s => gtS K[m] s) = K.drop (m + 1) := by
    rw [List.filter_eq_self]
    intro s hs
    obtain ⟨i, hi, rfl⟩ := List.mem_iff_getElem.1 hs
    rw [List.getElem_drop]
    have hi' : m + 1 + i < K.length := by simp at hi; omega
    have := List.pairwise_iff_getElem.1 hK m (m + 1 + i) hm hi' (by omega)
    unfold gtS
    rw [bl_asym this, bl_ne this]
    rfl
  have c := congrArg (List.filter fun s => gtS K[m] s) (List.take_append_drop (m + 1) K)
  rw [List.filter_append, a, b, List.nil_append] at c
  exact c.symm
def aft (K : List ByteArray) (m : Nat) : ByteArray := if m = 0 then ⟨#[]⟩ else K.getD (m - 1) ByteArray.empty
theorem gt_empty (s : ByteArray) (h : 1 ≤ s.size) : gtS ⟨#[]⟩ s = true := by
  have hne : s.toList ≠ [] := by
    intro e
    have hsz : s.size = s.data.toList.length := by rw [Array.length_toList]; rfl
    rw [ByteArray.toList_eq] at e
    rw [e] at hsz
    rw [hsz] at h
    exact absurd h (by decide)
  have e0 : (⟨#[]⟩ : ByteArray).toList = [] := by rw [ByteArray.toList_eq]
  unfold gtS
  rw [e0]
  have : Op.bytesLess s.toList [] = false := by cases s.toList <;> rfl
  rw [this]
  simpa using hne
theorem aft_filter {K : List ByteArray} (hK : Srt K) (h1 : ∀ s ∈ K, 1 ≤ s.size) (m : Nat) (hm : m ≤ K.length) : (K.filter fun s => gtS (aft K m) s) = K.drop m := by
  unfold aft
  by_cases h0 : m = 0
  · subst h0
    rw [if_pos rfl, List.drop_zero, List.filter_eq_self]
    exact fun s hs => gt_empty s (h1 s hs)
  · have e : K.getD (m - 1) ByteArray.empty = K[m - 1] := by rw [List.getD_eq_getElem?_getD, List.getElem?_eq_getElem (by omega)]; rfl
    rw [if_neg h0, e, after_drop hK (m - 1) (by omega), show m - 1 + 1 = m by omega]
theorem page_loop {l : List S32} {next : Int} (h : Inv l next 30) (p : ByteArray) (hp : p.size ≤ 65536) (n : Int) (h0 : 1 ≤ n) (h1 : n ≤ 300) (K : List ByteArray) (hK : pk l p = K) (hS : Srt K) (hz : ∀ s ∈ K, 1 ≤ s.size ∧ s.size ≤ 30) (B : Nat) (hB : 140737491360200 < B) (d : Nat) : ∀ (k m i : Nat), m + d = K.length → i ≤ m → 2 * d + B < k →
    laws_FnList.l0 k p n K 0 K (K.take m) (aft K m) (i : Int) l next = some true := by
  have hl := h.l41
  have hKl : K.length ≤ l.length := by rw [← hK]; exact pk_len l p
  induction d using Nat.strongRecOn with
  | _ d ih =>
    intro k m i hm hi hk
    obtain ⟨k, rfl⟩ : ∃ q, k = q + 2 := ⟨k - 2, by omega⟩
    have hfil : ((pk l p).filter fun s => gtS (aft K m) s) = K.drop m := by rw [hK]; exact aft_filter hS (fun s hs => (hz s hs).1) m (by omega)
    have has : (aft K m).size ≤ 65536 := by
      unfold aft
      by_cases hm0 : m = 0
      · rw [if_pos hm0]; decide
      · rw [if_neg hm0, show K.getD (m - 1) ByteArray.empty = K[m - 1] by rw [List.getD_eq_getElem?_getD, List.getElem?_eq_getElem (by omega)]; rfl]
        have := (hz K[m - 1] (List.getElem_mem (by omega))).2
        omega
    have hL := (both_list h p (aft K m) hp has n (by omega) h1 (k + 1) (by omega)).2
    rw [hfil] at hL
    have hpl : ((K.drop m).take n.toNat).length ≤ n.toNat := by rw [List.length_take]; omega
    have hpd : ((K.drop m).take n.toNat).length = min n.toNat (K.length - m) := by rw [List.length_take, List.length_drop]
    have hdue : K.take m ++ (K.drop m).take n.toNat = K.take (m + ((K.drop m).take n.toNat).length) := by
      have h2 : ((K.drop m).take n.toNat) = (K.drop m).take (((K.drop m).take n.toNat).length) := by
        rw [hpd]
        by_cases hc : n.toNat ≤ K.length - m
        · rw [Nat.min_eq_left hc]
        · rw [Nat.min_eq_right (by omega), List.take_of_length_le (by rw [List.length_drop]; omega), List.take_of_length_le (by rw [List.length_drop]; exact Nat.le_refl _)]
      conv => lhs; rw [h2]
      exact (List.take_add ..).symm
    obtain ⟨P, hP⟩ : ∃ P, (K.drop m).take n.toNat = P := ⟨_, rfl⟩
    rw [hP] at hL hpl hpd hdue
    rw [laws_FnList.l0, if_pos (by omega), hL, Option.bind_some]
    dsimp only
    rw [if_pos rfl, decide_eq_false (by omega), laws_FnList.j2, if_neg (by decide)]
    by_cases hP0 : (P.length : Int) = 0
    · rw [if_pos hP0]
      have hmK : m = K.length := by omega
      obtain ⟨k, rfl⟩ : ∃ q, k = q + 1 := ⟨k - 1, by omega⟩
      rw [laws_FnList.j3, hmK, List.take_length]
      have := cnt_loop l next p K (by omega) hl l.length k 0 0 (by omega) (by omega) (by omega)
      rw [List.drop_zero, hK] at this
      refine Eq.trans this ?_
      simp
    · have hget : ∀ t, t < P.length → P[t]? = K[m + t]? := fun t ht => by rw [← hP, List.getElem?_take_of_lt (by omega), List.getElem?_drop]
      have hk2 : 2 * (d - P.length) + B < k := by omega
      have hd2 : d - P.length < d := by omega
      have hm2 : m + P.length + (d - P.length) = K.length := by omega
      have hi2 : i + 1 ≤ m + P.length := by omega
      have q1 : (K.take m).length + P.length < 8796093022208 := by rw [List.length_take]; omega
      have hmm : m + P.length ≤ K.length := by omega
      have hlast : rdOf ByteArray.empty P ((P.length - 1 : Nat) : Int) = aft K (m + P.length) := by
        have z1 : ¬ m + P.length = 0 := by omega
        have z2 : P.length - 1 < P.length := by omega
        have z3 : m + (P.length - 1) = m + P.length - 1 := by omega
        unfold rdOf aft
        rw [if_neg z1, Int.toNat_natCast, List.getD_eq_getElem?_getD, List.getD_eq_getElem?_getD]
        rw [hget (P.length - 1) z2, z3]
      have q2 : (0 : Int) ≤ ((P.length - 1 : Nat) : Int) := Int.natCast_nonneg _
      have q3 : ((P.length - 1 : Nat) : Int) < (P.length : Int) := by omega
      have hw : wrap64 ((P.length : Int) - 1) = ((P.length - 1 : Nat) : Int) := by
        clear hlast hL hget
        unfold wrap64; omega
      have hwi : wrap64 ((i : Int) + 1) = ((i + 1 : Nat) : Int) := by
        clear hlast hL hget hw
        unfold wrap64; omega
      refine (if_neg hP0).trans ?_
      refine (if_pos q1).trans ?_
      rw [hw]
      refine (if_pos q2).trans ?_
      refine (if_pos q3).trans ?_
      rw [hlast, hdue, hwi]
      exact ih (d - P.length) hd2 k (m + P.length) (i + 1) hm2 hi2 hk2
theorem pk_srt {l : List S32} (h : l.Pairwise lessK) (p : ByteArray) : Srt (pk l p) := by
  unfold Srt pk
  rw [List.pairwise_map]
  exact h.sublist List.filter_sublist
theorem list_start (n : Nat) (l0 l1 : List Int) (hj : laws_FnList.j0 (n + 1) l0 l1 false = some true) : laws_FnList.f (n + 1) l0 l1 = some true := by
  have ht : laws_FnList.j0 (n + 1) l0 l1 true = some true := by simp only [laws_FnList.j0, if_true]
  unfold laws_FnList.f
  by_cases h : (l0.length : Int) > 1048576
  · rw [if_pos h]; exact ht
  · rw [if_neg h]
    by_cases h' : (l1.length : Int) > 1048576
    · rw [decide_eq_true h']; exact ht
    · rw [decide_eq_false h']; exact hj
theorem kOK_size {s : ByteArray} (h : kOK s = true) : 1 ≤ s.size := by
  unfold kOK kFrom at h
  simp only [Bool.and_eq_true, decide_eq_true_eq] at h
  omega
theorem FnList : laws_FnList.Pure := by
  intro l0 l1 ⟨hm0, hn0, hb0⟩ ⟨hm1, hn1, hb1⟩
  have hb0 := bytes_of hb0
  have hb1 := bytes_of hb1
  obtain ⟨k, hk⟩ : ∃ k : Nat, 140737491370000 < k := ⟨140737491370001, by omega⟩
  refine ⟨k + 1, ?_⟩
  refine list_start _ _ _ ?_
  obtain ⟨l, next, e0, hI⟩ := plainStore_ok hb0 k (by omega)
  obtain ⟨t, e1, t0, t1⟩ := at_ok hb1 (by omega) 0 3 (by decide) (by decide) (by decide) (by decide)
  obtain ⟨j, e2, j0, j1⟩ := at_ok hb1 (by omega) 1 3 (by decide) (by decide) (by decide) (by decide)
  have hw : wrap64 (1 + j) = 1 + j := wrap_id _ (by omega) (by omega)
  obtain ⟨p, hp, hps⟩ : ∃ p, rdOf ByteArray.empty ([(⟨#[]⟩ : ByteArray), (⟨#[97, 47]⟩ : ByteArray), (⟨#[98, 47, 49]⟩ : ByteArray)] : List ByteArray) t = p ∧ p.size ≤ 65536 := by
    have ht : t = 0 ∨ t = 1 ∨ t = 2 := by omega
    rcases ht with rfl | rfl | rfl
    · exact ⟨_, rfl, by show (0 : Nat) ≤ 65536; decide⟩
    · exact ⟨_, rfl, by show (2 : Nat) ≤ 65536; decide⟩
    · exact ⟨_, rfl, by show (3 : Nat) ≤ 65536; decide⟩
  have hlen : (([(⟨#[]⟩ : ByteArray), (⟨#[97, 47]⟩ : ByteArray), (⟨#[98, 47, 49]⟩ : ByteArray)] : List ByteArray).length : Int) = 3 := rfl
  obtain ⟨K, hK⟩ : ∃ K, pk l p = K := ⟨_, rfl⟩
  have hS : Srt K := by rw [← hK]; exact pk_srt hI.srt p
  have hz : ∀ s ∈ K, 1 ≤ s.size ∧ s.size ≤ 30 := fun s hs => by
    rw [← hK] at hs
    unfold pk at hs
    obtain ⟨x, hx, rfl⟩ := List.mem_map.1 hs
    have := hI.obj x (List.mem_filter.1 hx).1
    exact ⟨kOK_size this.1, this.2.1⟩
  have hKl : K.length ≤ 40 := by have h1 := pk_len l p; have := hI.l41; rw [hK] at h1; omega
  obtain ⟨s1, s2⟩ := both_list hI p ⟨#[]⟩ hps (by show (0 : Nat) ≤ 65536; decide) 300 (by decide) (by decide) k (by omega)
  have hfil : ((pk l p).filter fun s => gtS ⟨#[]⟩ s).take (300 : Int).toNat = K := by
    rw [hK, show (K.filter fun s => gtS ⟨#[]⟩ s) = K from (aft_filter hS (fun s hs => (hz s hs).1) 0 (Nat.zero_le _)).trans (by rw [List.drop_zero])]
    exact List.take_of_length_le (by show K.length ≤ 300; omega)
  rw [hfil] at s1 s2
  have hP := page_loop hI p hps (1 + j) (by omega) (by omega) K hK hS hz 140737491360201 (by omega) K.length k 0 0 (by omega) (by omega) (by omega)
  rw [List.take_zero] at hP
  rw [laws_FnList.j0, if_neg (by decide), e0, Option.bind_some, Option.bind_some, e1, Option.bind_some, if_pos t0, hlen, if_pos t1, e2, Option.bind_some, hp, hw, s2, Option.bind_some, s1, Option.bind_some]
  exact hP

end Go.Proofs.Ytgkfemnfbkgeiaa.Pure
