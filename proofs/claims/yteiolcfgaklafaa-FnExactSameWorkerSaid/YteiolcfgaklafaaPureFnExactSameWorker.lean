/- The pure law of FnExactSameWorker: what the printed functions compute answers true for every input of the kinds and sizes that the statement gives. -/
import Derived.Test.YteiolcfgaklafaaKinFnExactSameWorker
namespace Go.Proofs.Yteiolcfgaklafaa.Pure
open Go.RowKit Go.Proofs.YteiolcfgaklafaaW.PrintWords Go.Proofs.YteiolcfgaklafaaW.PrintLast Go.Proofs.Yteiolcfgaklafaa.XFnExactSameWorker
set_option linter.unusedSimpArgs false
set_option linter.unusedVariables false

-- BODY
/-- list places, as the printed loops spell them -/
theorem cast_wrap {i n : Nat} (h : i < n) (hn : n ≤ 140737488351232) : wrap64 ((i : Int) + 1) = ((i + 1 : Nat) : Int) := by unfold wrap64; omega
theorem take_set_succ {α : Type} (l : List α) (i : Nat) (v : α) (h : i < l.length) : (l.set i v).take (i + 1) = l.take i ++ [v] := by
  rw [List.take_succ_eq_append_getElem (by simpa using h)]
  simp only [List.take_set, List.getElem_set_self]
  rw [List.set_eq_of_length_le (by simp; omega)]
theorem rd120_at (l : List S120) (i : Nat) (h : i < l.length) : rd_T120 l (i : Int) = l[i] := by
  unfold rd_T120; rw [Int.toNat_natCast, List.getD_eq_getElem?_getD, List.getElem?_eq_getElem h]; rfl
theorem rd149_at (l : List S149) (i : Nat) (h : i < l.length) : rd_T149 l (i : Int) = l[i] := by
  unfold rd_T149; rw [Int.toNat_natCast, List.getD_eq_getElem?_getD, List.getElem?_eq_getElem h]; rfl
def cvEntry (x : S149) : S120 := ⟨x.f0, x.f1, x.f2, x.f3⟩
theorem toEntryS_loop (l : List S149) (hl : l.length ≤ 1048576) (d : Nat) : ∀ (k i : Nat) (x : List S120), x.length = l.length → i ≤ l.length → l.length - i = d → d < k →
    laws_toEntryS.l0 k l x (i : Int) = some (x.take i ++ (l.drop i).map cvEntry) := by
  induction d with
  | zero =>
    intro k i x hx hi hd hk
    obtain ⟨k, rfl⟩ : ∃ m, k = m + 1 := ⟨k - 1, by omega⟩
    obtain rfl : i = l.length := by omega
    simp only [laws_toEntryS.l0]
    rw [if_neg (by omega), List.drop_length, List.map_nil, List.append_nil, ← hx, List.take_length]
  | succ d ih =>
    intro k i x hx hi hd hk
    obtain ⟨k, rfl⟩ : ∃ m, k = m + 1 := ⟨k - 1, by omega⟩
    have hlt : i < l.length := by omega
    simp only [laws_toEntryS.l0, laws_toEntry.f, Option.bind_some]
    rw [if_pos (by omega), if_pos (by omega), if_pos (by omega), rd149_at l i hlt, cast_wrap hlt (by omega), ih k (i + 1) _ (by simpa using hx) (by omega) (by omega) (by omega), Int.toNat_natCast, take_set_succ _ _ _ (by omega),
      List.drop_eq_getElem_cons hlt, List.map_cons, List.append_assoc]
    rfl
theorem toEntryS_eq (l : List S149) (hl : l.length ≤ 1048576) (k : Nat) (hk : l.length < k) : laws_toEntryS.f k l = some (l.map cvEntry) := by
  unfold laws_toEntryS.f
  rw [if_pos (by omega), if_pos (by omega)]
  have := toEntryS_loop l hl l.length k 0 (List.replicate ((l.length : Int)).toNat z120) (by simp) (by omega) (by omega) hk
  refine Eq.trans this ?_
  simp
theorem eqEntry_same (x0 : Int) (x1 : Int) (x2 : Int) (x3 : ByteArray) : laws_eqEntry.f x0 x1 x2 x3 x0 x1 x2 x3 = some true := by simp [laws_eqEntry.f]
theorem eqEntryS_loop (a : List S120) (hl : a.length ≤ 1048576) (d : Nat) : ∀ (k i : Nat), i ≤ a.length → a.length - i = d → d < k → laws_eqEntryS.l0 k a a (i : Int) = some true := by
  induction d with
  | zero =>
    intro k i hi hd hk
    obtain ⟨k, rfl⟩ : ∃ m, k = m + 1 := ⟨k - 1, by omega⟩
    simp only [laws_eqEntryS.l0]
    rw [if_neg (by omega)]
  | succ d ih =>
    intro k i hi hd hk
    obtain ⟨k, rfl⟩ : ∃ m, k = m + 1 := ⟨k - 1, by omega⟩
    have hlt : i < a.length := by omega
    simp only [laws_eqEntryS.l0]
    rw [if_pos (by omega), if_pos (by omega), if_pos (by omega), eqEntry_same, cast_wrap hlt (by omega), ih k (i + 1) (by omega) (by omega) (by omega)]
    simp
theorem eqEntryS_same (a : List S120) (hl : a.length ≤ 1048576) (k : Nat) (hk : a.length < k) : laws_eqEntryS.f k a a = some true := by
  unfold laws_eqEntryS.f
  rw [if_pos rfl]
  exact eqEntryS_loop a hl a.length k 0 (by omega) (by omega) hk
theorem szEntry_tot (x0 : Int) (x1 : Int) (x2 : Int) (x3 : ByteArray) (a : Int) (h0 : 0 ≤ a) (h1 : a ≤ 1048576) (hs0 : x3.size ≤ 140737488351232) : ∃ r, laws_szEntry.f x0 x1 x2 x3 a = some r ∧ (0 ≤ r → r ≤ a ∧ (x3.size : Int) ≤ a) := by
  unfold laws_szEntry.f
  have w0 : wrap64 (a - (x3.size : Int)) = a - (x3.size : Int) := by unfold wrap64; omega
  simp only [w0]
  by_cases c0 : a - (x3.size : Int) < 0
  · rw [if_pos c0]; exact ⟨-1, rfl, fun h => by omega⟩
  rw [if_neg c0]
  exact ⟨_, rfl, fun _ => by omega⟩
theorem szEntryS_loop (l : List S149) (hl : l.length ≤ 1048576) (hs : ∀ x ∈ l, x.f3.size ≤ 140737488351232) (d : Nat) : ∀ (k i : Nat) (a : Int), i ≤ l.length → l.length - i = d → d < k → 0 ≤ a → a ≤ 1048576 → ∃ r, laws_szEntryS.l0 k l a (i : Int) = some r ∧ (0 ≤ r → r ≤ a ∧ ∀ j (h : j < l.length), i ≤ j → ((l[j].f3).size : Int) ≤ a) := by
  induction d with
  | zero =>
    intro k i a hi hd hk h0 h1
    obtain ⟨k, rfl⟩ : ∃ m, k = m + 1 := ⟨k - 1, by omega⟩
    simp only [laws_szEntryS.l0]
    rw [if_neg (by omega)]
    exact ⟨a, rfl, fun _ => ⟨Int.le_refl _, fun j h hj => by omega⟩⟩
  | succ d ih =>
    intro k i a hi hd hk h0 h1
    obtain ⟨k, rfl⟩ : ∃ m, k = m + 1 := ⟨k - 1, by omega⟩
    have hlt : i < l.length := by omega
    have hsi := hs l[i] (List.getElem_mem hlt)
    obtain ⟨r, hr, hb⟩ := szEntry_tot l[i].f0 l[i].f1 l[i].f2 l[i].f3 a h0 h1 hsi
    simp only [laws_szEntryS.l0]
    rw [if_pos (by omega), if_pos (by omega), rd149_at l i hlt, hr]
    simp only [Option.bind_some]
    by_cases hn : r < 0
    · rw [if_pos hn]; exact ⟨-1, rfl, fun h => by omega⟩
    · rw [if_neg hn, cast_wrap hlt (by omega)]
      have hb' := hb (by omega)
      obtain ⟨q, hq, hqb⟩ := ih k (i + 1) r (by omega) (by omega) (by omega) (by omega) (by omega)
      refine ⟨q, hq, fun h => ⟨by have := hqb h; omega, fun j hj hij => ?_⟩⟩
      have hqb' := hqb h
      by_cases e : j = i
      · subst e; omega
      · have := hqb'.2 j hj (by omega)
        omega
theorem szEntryS_tot (l : List S149) (hs : ∀ x ∈ l, x.f3.size ≤ 140737488351232) (a : Int) (h0 : 0 ≤ a) (h1 : a ≤ 1048576) (hl : l.length ≤ 140737488351232) (k : Nat) (hk : 1048577 < k) : ∃ r, laws_szEntryS.f k l a = some r ∧ (0 ≤ r → r ≤ a ∧ (l.length : Int) ≤ a ∧ ∀ x ∈ l, ((x.f3).size : Int) ≤ a) := by
  unfold laws_szEntryS.f
  have hw : wrap64 (a - (l.length : Int)) = a - (l.length : Int) := by unfold wrap64; omega
  rw [hw]
  by_cases h : a - (l.length : Int) < 0
  · rw [if_pos h]; exact ⟨-1, rfl, fun h => by omega⟩
  · rw [if_neg h]
    obtain ⟨r, hr, hb⟩ := szEntryS_loop l (by omega) hs l.length k 0 (a - l.length) (by omega) (by omega) (by omega) (by omega) (by omega)
    refine ⟨r, hr, fun h => ?_⟩
    have hb' := hb h
    refine ⟨by omega, by omega, fun x hx => ?_⟩
    obtain ⟨j, hj, rfl⟩ := List.getElem_of_mem hx
    have := hb'.2 j hj (by omega)
    omega
theorem eq_loops (a b : List S120) (hl : a.length = b.length) (hb : a.length ≤ 1048576) (p0 : Int) (p1 : Int) (p2 : Int) (p3 : Int) (p4 : Int) (p5 : Int) (p6 : Int) (p7 : Int) (p8 : ByteArray) (p10 : Int) (p11 : Int) (p12 : Int) (p13 : Int) (p14 : Int) (p15 : Int) (q0 : Int) (q1 : Int) (q2 : Int) (q3 : Int) (q4 : Int) (q5 : Int) (q6 : Int) (q7 : Int) (q8 : ByteArray) (q10 : Int) (q11 : Int) (q12 : Int) (q13 : Int) (q14 : Int) (q15 : Int) (d : Nat) : ∀ (k i : Nat), i ≤ a.length → a.length - i = d → d < k →
    ∃ r, spec_SameWorker.l0 k (i : Int) p0 p1 p2 p3 p4 p5 p6 p7 p8 a p10 p11 p12 p13 p14 p15 q0 q1 q2 q3 q4 q5 q6 q7 q8 b q10 q11 q12 q13 q14 q15 = some r ∧ impl_Entry.l0 k a b (a.length : Int) (i : Int) = some r := by
  induction d with
  | zero =>
    intro k i hi hd hk
    obtain ⟨k, rfl⟩ : ∃ m, k = m + 1 := ⟨k - 1, by omega⟩
    simp only [spec_SameWorker.l0, impl_Entry.l0]
    rw [if_neg (by omega), if_neg (by omega)]
    exact ⟨_, rfl, rfl⟩
  | succ d ih =>
    intro k i hi hd hk
    obtain ⟨k, rfl⟩ : ∃ m, k = m + 1 := ⟨k - 1, by omega⟩
    have hlt : i < a.length := by omega
    obtain ⟨r, h1, h2⟩ := ih k (i + 1) (by omega) (by omega) (by omega)
    have e1 : ((i : Int) < (a.length : Int)) = True := eq_true (by omega)
    have e2 : ((i : Int) < (b.length : Int)) = True := eq_true (by omega)
    have e3 : ((0 : Int) ≤ (i : Int)) = True := eq_true (by omega)
    simp only [spec_SameWorker.l0, impl_Entry.l0, e1, e2, e3, if_true, cast_wrap hlt (by omega : a.length ≤ 140737488351232), h1, h2]
    split
    · exact ⟨_, rfl, rfl⟩
    · exact ⟨_, rfl, rfl⟩
theorem equal_tot (a b : List S120) (hb : a.length ≤ 1048576) (k : Nat) (hk : 1048577 < k) : ∃ r, impl_Entry.f k a b = some r ∧ (∀ p0 p1 p2 p3 p4 p5 p6 p7 p8 p10 p11 p12 p13 p14 p15 q0 q1 q2 q3 q4 q5 q6 q7 q8 q10 q11 q12 q13 q14 q15, ∀ j, j + 1 = k → spec_SameWorker.j0 k ((a.length : Int) != (b.length : Int)) p0 p1 p2 p3 p4 p5 p6 p7 p8 a p10 p11 p12 p13 p14 p15 q0 q1 q2 q3 q4 q5 q6 q7 q8 b q10 q11 q12 q13 q14 q15 = some r) := by
  unfold impl_Entry.f
  by_cases h : (a.length : Int) = (b.length : Int)
  · rw [if_pos h]
    obtain ⟨r, _, h2⟩ := eq_loops a b (by omega) hb 0 0 0 0 0 0 0 0 ⟨#[]⟩ 0 0 0 0 0 0 0 0 0 0 0 0 0 0 ⟨#[]⟩ 0 0 0 0 0 0 a.length k 0 (by omega) (by omega) (by omega)
    refine ⟨r, h2, ?_⟩
    rintro p0 p1 p2 p3 p4 p5 p6 p7 p8 p10 p11 p12 p13 p14 p15 q0 q1 q2 q3 q4 q5 q6 q7 q8 q10 q11 q12 q13 q14 q15 j rfl
    obtain ⟨r', h1', h2'⟩ := eq_loops a b (by omega) hb p0 p1 p2 p3 p4 p5 p6 p7 p8 p10 p11 p12 p13 p14 p15 q0 q1 q2 q3 q4 q5 q6 q7 q8 q10 q11 q12 q13 q14 q15 a.length j 0 (by omega) (by omega) (by omega)
    have h3 : impl_Entry.l0 (j + 1) a b (a.length : Int) ((0 : Nat) : Int) = some r' := (impl_Entry.mono_l j) a b _ _ r' h2'
    rw [h3] at h2
    obtain rfl : r' = r := Option.some.inj h2
    have hne : ((a.length : Int) != (b.length : Int)) = false := by simp [h]
    simp only [spec_SameWorker.j0, hne]
    simpa using h1'
  · rw [if_neg h]
    refine ⟨false, rfl, ?_⟩
    rintro p0 p1 p2 p3 p4 p5 p6 p7 p8 p10 p11 p12 p13 p14 p15 q0 q1 q2 q3 q4 q5 q6 q7 q8 q10 q11 q12 q13 q14 q15 j rfl
    have hne : ((a.length : Int) != (b.length : Int)) = true := by simp [h]
    simp only [spec_SameWorker.j0, hne]
    rfl
theorem same_eq (a b : List S120) (hb : a.length ≤ 1048576) (p0 : Int) (p1 : Int) (p2 : Int) (p3 : Int) (p4 : Int) (p5 : Int) (p6 : Int) (p7 : Int) (p8 : ByteArray) (p10 : Int) (p11 : Int) (p12 : Int) (p13 : Int) (p14 : Int) (p15 : Int) (q0 : Int) (q1 : Int) (q2 : Int) (q3 : Int) (q4 : Int) (q5 : Int) (q6 : Int) (q7 : Int) (q8 : ByteArray) (q10 : Int) (q11 : Int) (q12 : Int) (q13 : Int) (q14 : Int) (q15 : Int) (k : Nat) (hk : 1048578 < k) :
    ∃ r, spec_SameWorker.f k p0 p1 p2 p3 p4 p5 p6 p7 p8 a p10 p11 p12 p13 p14 p15 q0 q1 q2 q3 q4 q5 q6 q7 q8 b q10 q11 q12 q13 q14 q15 = some r ∧ impl_SameWorker.f k p0 p1 p2 p3 p4 p5 p6 p7 p8 a p10 p11 p12 p13 p14 p15 q0 q1 q2 q3 q4 q5 q6 q7 q8 b q10 q11 q12 q13 q14 q15 = some r := by
  obtain ⟨r, h1, h2⟩ := equal_tot a b hb k (by omega)
  have h2 := h2 p0 p1 p2 p3 p4 p5 p6 p7 p8 p10 p11 p12 p13 p14 p15 q0 q1 q2 q3 q4 q5 q6 q7 q8 q10 q11 q12 q13 q14 q15 (k - 1) (by omega)
  have ht : spec_SameWorker.j0 k true p0 p1 p2 p3 p4 p5 p6 p7 p8 a p10 p11 p12 p13 p14 p15 q0 q1 q2 q3 q4 q5 q6 q7 q8 b q10 q11 q12 q13 q14 q15 = some false := by
    obtain ⟨j, rfl⟩ : ∃ j, k = j + 1 := ⟨k - 1, by omega⟩
    simp [spec_SameWorker.j0]
  unfold spec_SameWorker.f impl_SameWorker.f
  simp only [ht, h1, h2, Option.bind_some]
  have hg3 : (!(p3 == q3) || (!(p4 == q4) || (!(p5 == q5) || (!(p6 == q6) || (!(p7 == q7) || (!(p8.toList == q8.toList))))))) = !(p3 == q3 && (p4 == q4 && (p5 == q5 && (p6 == q6 && (p7 == q7 && (p8.toList == q8.toList)))))) := by simp only [Bool.not_and]
  rw [hg3]
  generalize (p3 == q3 && (p4 == q4 && (p5 == q5 && (p6 == q6 && (p7 == q7 && (p8.toList == q8.toList)))))) = g3
  have hg4 : (!(p10 == q10) || (!(p11 == q11) || (!(p12 == q12) || (!(p13 == q13) || (!(p14 == q14) || (!(p15 == q15))))))) = !(p10 == q10 && (p11 == q11 && (p12 == q12 && (p13 == q13 && (p14 == q14 && (p15 == q15)))))) := by simp only [Bool.not_and]
  rw [hg4]
  generalize (p10 == q10 && (p11 == q11 && (p12 == q12 && (p13 == q13 && (p14 == q14 && (p15 == q15)))))) = g4
  by_cases c0 : p0 = q0
  · have hc0 := eq_true c0
    by_cases c1 : p1 = q1
    · have hc1 := eq_true c1
      by_cases c2 : p2 = q2
      · have hc2 := eq_true c2
        simp only [hc0, hc1, hc2, if_true]
        cases g3 <;> cases g4 <;> cases r <;> simp
      · have hn2 := eq_false c2
        refine ⟨false, ?_, ?_⟩
        · simp [hc0, hc1, hn2]
        · cases r <;> simp [hc0, hc1, hn2]
    · have hn1 := eq_false c1
      refine ⟨false, ?_, ?_⟩
      · simp [hc0, hn1]
      · cases r <;> simp [hc0, hn1]
  · have hn0 := eq_false c0
    refine ⟨false, ?_, ?_⟩
    · simp [hn0]
    · cases r <;> simp [hn0]
theorem FnExactSameWorker : laws_FnExactSameWorker.Pure := by
  intro p0 p1 p2 p3 p4 p5 p6 p7 p8 a p10 p11 p12 p13 p14 p15 q0 q1 q2 q3 q4 q5 q6 q7 q8 b q10 q11 q12 q13 q14 q15 _ _ _ _ _ _ _ _ hp8 ⟨_, ha, sa⟩ _ _ _ _ _ _ _ _ _ _ _ _ _ _ hq8 ⟨_, hb, sb⟩ _ _ _ _ _ _
  obtain ⟨k, hk⟩ : ∃ k : Nat, k = 2000000 := ⟨_, rfl⟩
  refine ⟨k, ?_⟩
  unfold laws_FnExactSameWorker.f laws_szWorker.f laws_szRecord.f
  have hw1 : wrap64 (1048576 - (p8.size : Int)) = 1048576 - (p8.size : Int) := by unfold wrap64; omega
  rw [hw1]
  by_cases d1 : 1048576 - (p8.size : Int) < 0
  · simp [d1]
  simp only [if_neg d1, Option.bind_some]
  obtain ⟨r1, s1, b1⟩ := szEntryS_tot a (fun x hx => (sa x hx).2.2.2) (1048576 - (p8.size : Int)) (by omega) (by omega) (by omega) k (by omega)
  rw [s1]
  simp only [Option.bind_some]
  by_cases ca : r1 < 0
  · simp [ca]
  have b1 := b1 (by omega)
  have hw2 : wrap64 (r1 - (q8.size : Int)) = r1 - (q8.size : Int) := by unfold wrap64; omega
  simp only [ca, if_false, Option.bind_some]
  rw [hw2]
  by_cases d2 : r1 - (q8.size : Int) < 0
  · simp [d2]
  simp only [if_neg d2, Option.bind_some]
  obtain ⟨r2, s2, b2⟩ := szEntryS_tot b (fun x hx => (sb x hx).2.2.2) (r1 - (q8.size : Int)) (by omega) (by omega) (by omega) k (by omega)
  simp only [ca, if_false, Option.bind_some, s2]
  by_cases cb : r2 < 0
  · simp [cb]
  have b2 := b2 (by omega)
  have la : (a.map cvEntry).length = a.length := by simp
  have lb : (b.map cvEntry).length = b.length := by simp
  obtain ⟨r, h1, h2⟩ := same_eq (a.map cvEntry) (b.map cvEntry) (by omega) p0 p1 p2 p3 p4 p5 p6 p7 p8 p10 p11 p12 p13 p14 p15 q0 q1 q2 q3 q4 q5 q6 q7 q8 q10 q11 q12 q13 q14 q15 k (by omega)
  simp only [cb, if_false, Option.bind_some, laws_toWorker.f, toEntryS_eq a (by omega) k (by omega), toEntryS_eq b (by omega) k (by omega), laws_toAgg.f, laws_toRecord.f, laws_eqAgg.f, laws_eqRecord.f, h1, h2, laws_eqWorker.f,
    eqEntryS_same (a.map cvEntry) (by omega) k (by omega), eqEntryS_same (b.map cvEntry) (by omega) k (by omega)]
  cases r <;> simp

end Go.Proofs.Yteiolcfgaklafaa.Pure
