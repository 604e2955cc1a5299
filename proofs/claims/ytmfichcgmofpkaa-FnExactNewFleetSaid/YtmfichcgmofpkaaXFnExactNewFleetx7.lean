-- Printed by this session's own program wip/tools/xprint.py, which widens the kit's print. Not trusted: Lean checks it.
import Derived.Test.YtmfichcgmofpkaaXFnExactNewFleetx0
import Derived.Test.YtmfichcgmofpkaaXFnExactNewFleetx3
import Derived.Test.YtmfichcgmofpkaaXFnExactNewFleetx6
namespace Go.Proofs.Ytmfichcgmofpkaa.XFnExactNewFleet
open List (setIfInBounds_toArray set_cons_zero set_cons_succ)
open Go.RowKit Go.Proofs.YtmfichcgmofpkaaW.PrintWords Go.Proofs.YtmfichcgmofpkaaW.PrintLast Go.Proofs.YtmfichcgmofpkaaW.PrintMore
attribute [local go_sem] max2_int min2_int max_two min_two max_three min_three max_four min_four   -- for this text's walks alone
set_option linter.unusedVariables false
set_option linter.unusedSimpArgs false

/-! ### laws_eqReaderS: function 15 -/
def laws_eqReaderS.l0 : Nat → List (S48) → List (S48) → Int → Option (Bool)
 | 0,_,_,_ => none
 | k + 1,x0,x1,x5 => if x5 < (x0.length : Int) then (if 0 ≤ x5 then (if x5 < (x1.length : Int) then ((laws_eqReader.f k ((rd_T48 x0 x5).f0) ((rd_T48 x0 x5).f1) ((rd_T48 x0 x5).f2) ((rd_T48 x0 x5).f3) ((rd_T48 x0 x5).f4) ((rd_T48 x0 x5).f5) ((rd_T48 x0 x5).f6) ((rd_T48 x0 x5).f7) ((rd_T48 x0 x5).f8.f0) ((rd_T48 x0 x5).f8.f1) ((rd_T48 x0 x5).f8.f2) ((rd_T48 x0 x5).f8.f3) ((rd_T48 x0 x5).f8.f4) ((rd_T48 x0 x5).f8.f5) ((rd_T48 x1 x5).f0) ((rd_T48 x1 x5).f1) ((rd_T48 x1 x5).f2) ((rd_T48 x1 x5).f3) ((rd_T48 x1 x5).f4) ((rd_T48 x1 x5).f5) ((rd_T48 x1 x5).f6) ((rd_T48 x1 x5).f7) ((rd_T48 x1 x5).f8.f0) ((rd_T48 x1 x5).f8.f1) ((rd_T48 x1 x5).f8.f2) ((rd_T48 x1 x5).f8.f3) ((rd_T48 x1 x5).f8.f4) ((rd_T48 x1 x5).f8.f5)).bind fun t273 => (if t273 = true then (laws_eqReaderS.l0 k x0 x1 (wrap64 (x5 + 1))) else (some false))) else (none)) else (none)) else (some true)
def laws_eqReaderS.f (k : Nat) (l0 : List (S48)) (l1 : List (S48)) : Option (Bool) := if (l0.length : Int) = (l1.length : Int) then (laws_eqReaderS.l0 k l0 l1 0) else (some false)
theorem laws_eqReaderS.mono_l : ∀ k,(∀ y0 y1 y2,LeO (laws_eqReaderS.l0 k y0 y1 y2) (laws_eqReaderS.l0 (k + 1) y0 y1 y2))
 | 0 => fun _ _ _ r h => by simp [laws_eqReaderS.l0] at h
 | k + 1 => by
  have ih0 := laws_eqReaderS.mono_l k
  ·intro y0 y1 y2
   unfold laws_eqReaderS.l0
   repeat' first
   | (with_reducible first | exact ih0 .. | exact laws_eqReader.mono .. | exact LeO.refl _ | exact LeO.none _ | refine LeO.ite ?_ ?_ | refine LeO.bind ?_ (fun _ => ?_))
   | exact LeO.none _ | refine LeO.ite ?_ ?_ | refine LeO.bind ?_ (fun _ => ?_)
theorem laws_eqReaderS.mono : ∀ a0 a1 k,LeO (laws_eqReaderS.f k a0 a1) (laws_eqReaderS.f (k + 1) a0 a1) := by
 intro a0 a1 k
 have ih0 := laws_eqReaderS.mono_l k
 unfold laws_eqReaderS.f
 repeat' first
 | (with_reducible first | exact ih0 .. | exact laws_eqReader.mono .. | exact LeO.refl _ | exact LeO.none _ | refine LeO.ite ?_ ?_ | refine LeO.bind ?_ (fun _ => ?_))
 | exact LeO.none _ | refine LeO.ite ?_ ?_ | refine LeO.bind ?_ (fun _ => ?_)
def laws_eqReaderS.T6 : Bool × List (List Nat × List Nat) := (true,[([],[]),([],[]),([0,1],[0,1]),([2],[2]),([],[]),([],[]),([4,5],[4,5]),([6],[6]),([3,7],[3,7]),([8],[8])])
def laws_eqReaderS.B6 : List Nat := [0,0,3,7,0,0,48,112,255,511]
theorem laws_eqReaderS.tab6 : rtab .any (opsOf Try.f15 6) = laws_eqReaderS.T6 := by kernel_rfl
theorem laws_eqReaderS.bits6 : waitsOk laws_eqReaderS.T6.2 laws_eqReaderS.B6 = true := by kernel_rfl
set_option maxHeartbeats 8000000 in
set_option maxRecDepth 100000 in
theorem laws_eqReaderS.calls (k : Nat) (A0 : Option Addr) (c0 : Nat) (l0 : List (S48)) (A1 : Option Addr) (c1 : Nat) (l1 : List (S48)) (r : Bool) (w : World) (hr0 : Kd.C k48 w A0 l0.length l0) (hc0 : l0.length ≤ c0) (hr1 : Kd.C k48 w A1 l1.length l1) (hc1 : l1.length ≤ c1) (h : laws_eqReaderS.f k l0 l1 = some r) :
  Calls Try.prog 15 #[.slice A0 l0.length c0,.slice A1 l1.length c1] w fun e w' => e = .returned (.bool r) ∧ Below w.heap.size w w' := by
 have hu48 := Try.underlying48
 have HR0 := Aside0.mk hr0
 have HC0 := Aside0.mk hc0
 clear hr0 hc0
 have HR1 := Aside0.mk hr1
 have HC1 := Aside0.mk hc1
 clear hr1 hc1
 have HB := Aside0.mk (Below.refl w.heap.size w)
 have H : (if (l0.length : Int) = (l1.length : Int) then (laws_eqReaderS.l0 k l0 l1 0) else (some false)) = some r := h
 clear h
 by_cases c3 : (l0.length : Int) = (l1.length : Int)
 ·rw [if_pos c3] at H
  have c3b0 : ((l0.length : Int) == (l1.length : Int)) = true := beq_iff_eq.mpr c3
  have c3b1 : ((l0.length : Int) != (l1.length : Int)) = false := bne_eq_false_iff_eq.mpr c3
  have c3b2 : (l0.length == l1.length) = true := by first | simpa using c3 | (simp at c3 ⊢; omega)
  clear c3
  have H' := Aside0.mk H
  clear H
  go_enter Try.func15,Try.ntmps15
  go_wp2
  go_loopg [5] k (fun kq v5 w' => ∃ (x5_1 : Int),v5 = .int .i64 x5_1 ∧ Aside0 (laws_eqReaderS.l0 kq l0 l1 x5_1 = some r) ∧ Aside0 (kq ≤ k) ∧ Aside0 (Below w.heap.size w w'))
  case atStart => exact ⟨(0),(by first | rfl | (simp; done) | (simp [*]; done)),H',⟨Nat.le_refl _⟩,⟨bA⟩⟩
  case round =>
   clear H'
   try clear c1
   try clear p2
   try clear c3
   try clear c3b0
   try clear c3b1
   try clear c3b2
   obtain ⟨x5_1,rfl,HA,HK1,HB⟩ := hrel
   cases gk with
   | zero => exact absurd HA.out (by simp [laws_eqReaderS.l0])
   | succ k1 =>
    have H := HA.out
    clear HA
    simp only [laws_eqReaderS.l0] at H
    by_cases c4 : x5_1 < (l0.length : Int)
    ·rw [if_pos c4] at H
     have c4b0 : decide (x5_1 < (l0.length : Int)) = true := decide_eq_true c4
     clear c4
     by_cases c5 : 0 ≤ x5_1
     ·rw [if_pos c5] at H
      have c5b0 : decide (0 ≤ x5_1) = true := decide_eq_true c5
      clear c5
      by_cases c6 : x5_1 < (l1.length : Int)
      ·rw [if_pos c6] at H
       have c6b0 : decide (x5_1 < (l1.length : Int)) = true := decide_eq_true c6
       clear c6
       replace H := Option.bind_eq_some_iff.mp H
       obtain ⟨t273,A70,H⟩ := H
       try dsimp only at H
       have A7 := Aside0.mk A70
       clear A70
       by_cases c8 : t273 = true
       ·subst c8
        rw [if_pos rfl] at H
        have H' := Aside0.mk H
        clear H
        try go_wp2
        replace HB := Aside0.mk (below_drew1 HB.out)
        have p271 : 0 ≤ (x5_1 : Int) := od
        have q271 : x5_1 < (l0.length : Int) := od
        obtain ⟨ad271,A271_7,c271_7,e271,hx271_0,hx271_1,hx271_2,hx271_3,hx271_4,hx271_5,hx271_6,hx271_7,hx271_8,hx271_9,hx271_10,hx271_11,hx271_12,hx271_13⟩ := at_T48 HR0.out x5_1 p271 q271
        have hw271_13 := hx271_13
        have hw271_12 := hx271_12
        have hw271_11 := hx271_11
        have hw271_10 := hx271_10
        have hw271_9 := hx271_9
        have hw271_8 := hx271_8
        have hw271_7 := hx271_7
        have hw271_6 := hx271_6
        have hw271_5 := hx271_5
        have hw271_4 := hx271_4
        have hw271_3 := hx271_3
        have hw271_2 := hx271_2
        have hw271_1 := hx271_1
        have hw271_0 := hx271_0
        cases e271
        replace hx271_0 := cb HB.out hx271_0
        replace hx271_1 := cb HB.out hx271_1
        replace hx271_2 := cb HB.out hx271_2
        replace hx271_3 := cb HB.out hx271_3
        replace hx271_4 := cb HB.out hx271_4
        replace hx271_5 := cb HB.out hx271_5
        replace hx271_6 := cb HB.out hx271_6
        replace hx271_7 := cb HB.out hx271_7
        replace hx271_8 := cb HB.out hx271_8
        replace hx271_9 := cb HB.out hx271_9
        replace hx271_10 := cb HB.out hx271_10
        replace hx271_11 := cb HB.out hx271_11
        replace hx271_12 := cb HB.out hx271_12
        replace hx271_13 := cb HB.out hx271_13
        replace p271 := eq_true p271
        replace q271 := eq_true q271
        have p272 : 0 ≤ (x5_1 : Int) := od
        have q272 : x5_1 < (l1.length : Int) := od
        obtain ⟨ad272,A272_7,c272_7,e272,hx272_0,hx272_1,hx272_2,hx272_3,hx272_4,hx272_5,hx272_6,hx272_7,hx272_8,hx272_9,hx272_10,hx272_11,hx272_12,hx272_13⟩ := at_T48 HR1.out x5_1 p272 q272
        have hw272_13 := hx272_13
        have hw272_12 := hx272_12
        have hw272_11 := hx272_11
        have hw272_10 := hx272_10
        have hw272_9 := hx272_9
        have hw272_8 := hx272_8
        have hw272_7 := hx272_7
        have hw272_6 := hx272_6
        have hw272_5 := hx272_5
        have hw272_4 := hx272_4
        have hw272_3 := hx272_3
        have hw272_2 := hx272_2
        have hw272_1 := hx272_1
        have hw272_0 := hx272_0
        cases e272
        replace hx272_0 := cb HB.out hx272_0
        replace hx272_1 := cb HB.out hx272_1
        replace hx272_2 := cb HB.out hx272_2
        replace hx272_3 := cb HB.out hx272_3
        replace hx272_4 := cb HB.out hx272_4
        replace hx272_5 := cb HB.out hx272_5
        replace hx272_6 := cb HB.out hx272_6
        replace hx272_7 := cb HB.out hx272_7
        replace hx272_8 := cb HB.out hx272_8
        replace hx272_9 := cb HB.out hx272_9
        replace hx272_10 := cb HB.out hx272_10
        replace hx272_11 := cb HB.out hx272_11
        replace hx272_12 := cb HB.out hx272_12
        replace hx272_13 := cb HB.out hx272_13
        replace p272 := eq_true p272
        replace q272 := eq_true q272
        refine start_ (n:=10) (S:=fun w' => w'.cell? (ad271.add ((x5_1).toNat * 14)) = some (.int .i64 ((rd_T48 l0 x5_1).f0)) ∧ w'.cell? ⟨(ad271.add ((x5_1).toNat * 14)).block,(ad271.add ((x5_1).toNat * 14)).off + 1,none⟩ = some (.int .i64 ((rd_T48 l0 x5_1).f1)) ∧ w'.cell? ⟨(ad271.add ((x5_1).toNat * 14)).block,(ad271.add ((x5_1).toNat * 14)).off + 2,none⟩ = some (.int .i64 ((rd_T48 l0 x5_1).f2)) ∧ w'.cell? ⟨(ad271.add ((x5_1).toNat * 14)).block,(ad271.add ((x5_1).toNat * 14)).off + 3,none⟩ = some (.int .i64 ((rd_T48 l0 x5_1).f3)) ∧ w'.cell? ⟨(ad271.add ((x5_1).toNat * 14)).block,(ad271.add ((x5_1).toNat * 14)).off + 4,none⟩ = some (.int .i64 ((rd_T48 l0 x5_1).f4)) ∧ w'.cell? ⟨(ad271.add ((x5_1).toNat * 14)).block,(ad271.add ((x5_1).toNat * 14)).off + 5,none⟩ = some (.int .i64 ((rd_T48 l0 x5_1).f5)) ∧ w'.cell? ⟨(ad271.add ((x5_1).toNat * 14)).block,(ad271.add ((x5_1).toNat * 14)).off + 6,none⟩ = some (.int .i64 ((rd_T48 l0 x5_1).f6)) ∧ w'.cell? ⟨(ad271.add ((x5_1).toNat * 14)).block,(ad271.add ((x5_1).toNat * 14)).off + 7,none⟩ = some (.slice A271_7 0 c271_7) ∧ w'.cell? ⟨(ad271.add ((x5_1).toNat * 14)).block,(ad271.add ((x5_1).toNat * 14)).off + 8,none⟩ = some (.int .i64 ((rd_T48 l0 x5_1).f8.f0)) ∧ w'.cell? ⟨(ad271.add ((x5_1).toNat * 14)).block,(ad271.add ((x5_1).toNat * 14)).off + 9,none⟩ = some (.int .i64 ((rd_T48 l0 x5_1).f8.f1)) ∧ w'.cell? ⟨(ad271.add ((x5_1).toNat * 14)).block,(ad271.add ((x5_1).toNat * 14)).off + 10,none⟩ = some (.int .i64 ((rd_T48 l0 x5_1).f8.f2)) ∧ w'.cell? ⟨(ad271.add ((x5_1).toNat * 14)).block,(ad271.add ((x5_1).toNat * 14)).off + 11,none⟩ = some (.int .i64 ((rd_T48 l0 x5_1).f8.f3)) ∧ w'.cell? ⟨(ad271.add ((x5_1).toNat * 14)).block,(ad271.add ((x5_1).toNat * 14)).off + 12,none⟩ = some (.int .i64 ((rd_T48 l0 x5_1).f8.f4)) ∧ w'.cell? ⟨(ad271.add ((x5_1).toNat * 14)).block,(ad271.add ((x5_1).toNat * 14)).off + 13,none⟩ = some (.int .i64 ((rd_T48 l0 x5_1).f8.f5)) ∧ w'.cell? (ad272.add ((x5_1).toNat * 14)) = some (.int .i64 ((rd_T48 l1 x5_1).f0)) ∧ w'.cell? ⟨(ad272.add ((x5_1).toNat * 14)).block,(ad272.add ((x5_1).toNat * 14)).off + 1,none⟩ = some (.int .i64 ((rd_T48 l1 x5_1).f1)) ∧ w'.cell? ⟨(ad272.add ((x5_1).toNat * 14)).block,(ad272.add ((x5_1).toNat * 14)).off + 2,none⟩ = some (.int .i64 ((rd_T48 l1 x5_1).f2)) ∧ w'.cell? ⟨(ad272.add ((x5_1).toNat * 14)).block,(ad272.add ((x5_1).toNat * 14)).off + 3,none⟩ = some (.int .i64 ((rd_T48 l1 x5_1).f3)) ∧ w'.cell? ⟨(ad272.add ((x5_1).toNat * 14)).block,(ad272.add ((x5_1).toNat * 14)).off + 4,none⟩ = some (.int .i64 ((rd_T48 l1 x5_1).f4)) ∧ w'.cell? ⟨(ad272.add ((x5_1).toNat * 14)).block,(ad272.add ((x5_1).toNat * 14)).off + 5,none⟩ = some (.int .i64 ((rd_T48 l1 x5_1).f5)) ∧ w'.cell? ⟨(ad272.add ((x5_1).toNat * 14)).block,(ad272.add ((x5_1).toNat * 14)).off + 6,none⟩ = some (.int .i64 ((rd_T48 l1 x5_1).f6)) ∧ w'.cell? ⟨(ad272.add ((x5_1).toNat * 14)).block,(ad272.add ((x5_1).toNat * 14)).off + 7,none⟩ = some (.slice A272_7 0 c272_7) ∧ w'.cell? ⟨(ad272.add ((x5_1).toNat * 14)).block,(ad272.add ((x5_1).toNat * 14)).off + 8,none⟩ = some (.int .i64 ((rd_T48 l1 x5_1).f8.f0)) ∧ w'.cell? ⟨(ad272.add ((x5_1).toNat * 14)).block,(ad272.add ((x5_1).toNat * 14)).off + 9,none⟩ = some (.int .i64 ((rd_T48 l1 x5_1).f8.f1)) ∧ w'.cell? ⟨(ad272.add ((x5_1).toNat * 14)).block,(ad272.add ((x5_1).toNat * 14)).off + 10,none⟩ = some (.int .i64 ((rd_T48 l1 x5_1).f8.f2)) ∧ w'.cell? ⟨(ad272.add ((x5_1).toNat * 14)).block,(ad272.add ((x5_1).toNat * 14)).off + 11,none⟩ = some (.int .i64 ((rd_T48 l1 x5_1).f8.f3)) ∧ w'.cell? ⟨(ad272.add ((x5_1).toNat * 14)).block,(ad272.add ((x5_1).toNat * 14)).off + 12,none⟩ = some (.int .i64 ((rd_T48 l1 x5_1).f8.f4)) ∧ w'.cell? ⟨(ad272.add ((x5_1).toNat * 14)).block,(ad272.add ((x5_1).toNat * 14)).off + 13,none⟩ = some (.int .i64 ((rd_T48 l1 x5_1).f8.f5))) (ds := []) (bm 10 0) (by kernel_rfl) rfl rfl ⟨(cb HB.out hw271_0),(cb HB.out hw271_1),(cb HB.out hw271_2),(cb HB.out hw271_3),(cb HB.out hw271_4),(cb HB.out hw271_5),(cb HB.out hw271_6),(cb HB.out hw271_7),(cb HB.out hw271_8),(cb HB.out hw271_9),(cb HB.out hw271_10),(cb HB.out hw271_11),(cb HB.out hw271_12),(cb HB.out hw271_13),(cb HB.out hw272_0),(cb HB.out hw272_1),(cb HB.out hw272_2),(cb HB.out hw272_3),(cb HB.out hw272_4),(cb HB.out hw272_5),(cb HB.out hw272_6),(cb HB.out hw272_7),(cb HB.out hw272_8),(cb HB.out hw272_9),(cb HB.out hw272_10),(cb HB.out hw272_11),(cb HB.out hw272_12),(cb HB.out hw272_13)⟩ (fun hHeld => ?_); refine with_tabW laws_eqReaderS.tab6 laws_eqReaderS.bits6 (fun HT_ HW_ => ?_)
        generalize wr.drew = w9 at HB hx271_0 hx271_1 hx271_10 hx271_11 hx271_12 hx271_13 hx271_2 hx271_3 hx271_4 hx271_5 hx271_6 hx271_7 hx271_8 hx271_9 hx272_0 hx272_1 hx272_10 hx272_11 hx272_12 hx272_13 hx272_2 hx272_3 hx272_4 hx272_5 hx272_6 hx272_7 hx272_8 hx272_9 hHeld ⊢
        refine pV_ 0 17 (bm 10 1) HT_.out ?_
        refine pV_ 1 18 (bm 10 3) HT_.out ?_
        refine pV_ 2 19 (bm 10 7) HT_.out ?_
        refine pV_ 4 21 (bm 10 23) HT_.out ?_
        refine pV_ 5 22 (bm 10 55) HT_.out ?_
        refine pV_ 6 23 (bm 10 119) HT_.out ?_
        refine tk 3 20 (bm 10 127) HT_.out HW_.out hHeld ?_
        refine tk 7 24 (bm 10 255) HT_.out HW_.out hHeld ?_
        refine one_ (i:=8) (N:=some 25) (bm 10 511) rfl rfl (one_of HT_.out (by kernel_rfl)) (by decide) (fun K hK => ?_)
        refine goes_ Try.func37 (by kernel_rfl) rfl #[.agg #[.int .i64 ((rd_T48 l0 x5_1).f0),.int .i64 ((rd_T48 l0 x5_1).f1),.int .i64 ((rd_T48 l0 x5_1).f2),.int .i64 ((rd_T48 l0 x5_1).f3),.int .i64 ((rd_T48 l0 x5_1).f4),.int .i64 ((rd_T48 l0 x5_1).f5),.int .i64 ((rd_T48 l0 x5_1).f6),.slice A271_7 0 c271_7,.int .i64 ((rd_T48 l0 x5_1).f8.f0),.int .i64 ((rd_T48 l0 x5_1).f8.f1),.int .i64 ((rd_T48 l0 x5_1).f8.f2),.int .i64 ((rd_T48 l0 x5_1).f8.f3),.int .i64 ((rd_T48 l0 x5_1).f8.f4),.int .i64 ((rd_T48 l0 x5_1).f8.f5)],.agg #[.int .i64 ((rd_T48 l1 x5_1).f0),.int .i64 ((rd_T48 l1 x5_1).f1),.int .i64 ((rd_T48 l1 x5_1).f2),.int .i64 ((rd_T48 l1 x5_1).f3),.int .i64 ((rd_T48 l1 x5_1).f4),.int .i64 ((rd_T48 l1 x5_1).f5),.int .i64 ((rd_T48 l1 x5_1).f6),.slice A272_7 0 c272_7,.int .i64 ((rd_T48 l1 x5_1).f8.f0),.int .i64 ((rd_T48 l1 x5_1).f8.f1),.int .i64 ((rd_T48 l1 x5_1).f8.f2),.int .i64 ((rd_T48 l1 x5_1).f8.f3),.int .i64 ((rd_T48 l1 x5_1).f8.f4),.int .i64 ((rd_T48 l1 x5_1).f8.f5)]] (by rfl) rfl rfl mA ?_
        with_reducible refine (laws_eqReader.calls k1 ((rd_T48 l0 x5_1).f0) ((rd_T48 l0 x5_1).f1) ((rd_T48 l0 x5_1).f2) ((rd_T48 l0 x5_1).f3) ((rd_T48 l0 x5_1).f4) ((rd_T48 l0 x5_1).f5) ((rd_T48 l0 x5_1).f6) _ _ ((rd_T48 l0 x5_1).f7) ((rd_T48 l0 x5_1).f8.f0) ((rd_T48 l0 x5_1).f8.f1) ((rd_T48 l0 x5_1).f8.f2) ((rd_T48 l0 x5_1).f8.f3) ((rd_T48 l0 x5_1).f8.f4) ((rd_T48 l0 x5_1).f8.f5) ((rd_T48 l1 x5_1).f0) ((rd_T48 l1 x5_1).f1) ((rd_T48 l1 x5_1).f2) ((rd_T48 l1 x5_1).f3) ((rd_T48 l1 x5_1).f4) ((rd_T48 l1 x5_1).f5) ((rd_T48 l1 x5_1).f6) _ _ ((rd_T48 l1 x5_1).f7) ((rd_T48 l1 x5_1).f8.f0) ((rd_T48 l1 x5_1).f8.f1) ((rd_T48 l1 x5_1).f8.f2) ((rd_T48 l1 x5_1).f8.f3) ((rd_T48 l1 x5_1).f8.f4) ((rd_T48 l1 x5_1).f8.f5) true _ A7.out).mono ?_
        rintro e w10 ⟨rfl,hb⟩
        refine ⟨_,rfl,?_⟩
        replace HB := bsA hb
        clear hb
        refine hK.out _ _ ⟨(cb HB.out hw271_0),(cb HB.out hw271_1),(cb HB.out hw271_2),(cb HB.out hw271_3),(cb HB.out hw271_4),(cb HB.out hw271_5),(cb HB.out hw271_6),(cb HB.out hw271_7),(cb HB.out hw271_8),(cb HB.out hw271_9),(cb HB.out hw271_10),(cb HB.out hw271_11),(cb HB.out hw271_12),(cb HB.out hw271_13),(cb HB.out hw272_0),(cb HB.out hw272_1),(cb HB.out hw272_2),(cb HB.out hw272_3),(cb HB.out hw272_4),(cb HB.out hw272_5),(cb HB.out hw272_6),(cb HB.out hw272_7),(cb HB.out hw272_8),(cb HB.out hw272_9),(cb HB.out hw272_10),(cb HB.out hw272_11),(cb HB.out hw272_12),(cb HB.out hw272_13)⟩ (fun hHeld => ?_)
        clear hK K
        refine nw 25 ?_
        refine pV_ 9 26 (bm 10 1023) HT_.out ?_
        refine done_ (done_of HT_.out (by kernel_rfl)) ?_
        try go_wp2
        go_roundg k1
        case measure => have := HK1.out; omega
        case rel => exact ⟨(wrap64 (x5_1 + 1)),(by first | rfl | (simp; done) | (simp [*]; done)),H',⟨by have := HK1.out; omega⟩,⟨bA⟩⟩
       ·replace c8 := Bool.eq_false_iff.mpr c8
        subst c8
        rw [if_neg (show ¬ (false = true) by decide)] at H
        obtain rfl := Option.some.inj H
        try go_wp2
        replace HB := Aside0.mk (below_drew1 HB.out)
        have p271 : 0 ≤ (x5_1 : Int) := od
        have q271 : x5_1 < (l0.length : Int) := od
        obtain ⟨ad271,A271_7,c271_7,e271,hx271_0,hx271_1,hx271_2,hx271_3,hx271_4,hx271_5,hx271_6,hx271_7,hx271_8,hx271_9,hx271_10,hx271_11,hx271_12,hx271_13⟩ := at_T48 HR0.out x5_1 p271 q271
        have hw271_13 := hx271_13
        have hw271_12 := hx271_12
        have hw271_11 := hx271_11
        have hw271_10 := hx271_10
        have hw271_9 := hx271_9
        have hw271_8 := hx271_8
        have hw271_7 := hx271_7
        have hw271_6 := hx271_6
        have hw271_5 := hx271_5
        have hw271_4 := hx271_4
        have hw271_3 := hx271_3
        have hw271_2 := hx271_2
        have hw271_1 := hx271_1
        have hw271_0 := hx271_0
        cases e271
        replace hx271_0 := cb HB.out hx271_0
        replace hx271_1 := cb HB.out hx271_1
        replace hx271_2 := cb HB.out hx271_2
        replace hx271_3 := cb HB.out hx271_3
        replace hx271_4 := cb HB.out hx271_4
        replace hx271_5 := cb HB.out hx271_5
        replace hx271_6 := cb HB.out hx271_6
        replace hx271_7 := cb HB.out hx271_7
        replace hx271_8 := cb HB.out hx271_8
        replace hx271_9 := cb HB.out hx271_9
        replace hx271_10 := cb HB.out hx271_10
        replace hx271_11 := cb HB.out hx271_11
        replace hx271_12 := cb HB.out hx271_12
        replace hx271_13 := cb HB.out hx271_13
        replace p271 := eq_true p271
        replace q271 := eq_true q271
        have p272 : 0 ≤ (x5_1 : Int) := od
        have q272 : x5_1 < (l1.length : Int) := od
        obtain ⟨ad272,A272_7,c272_7,e272,hx272_0,hx272_1,hx272_2,hx272_3,hx272_4,hx272_5,hx272_6,hx272_7,hx272_8,hx272_9,hx272_10,hx272_11,hx272_12,hx272_13⟩ := at_T48 HR1.out x5_1 p272 q272
        have hw272_13 := hx272_13
        have hw272_12 := hx272_12
        have hw272_11 := hx272_11
        have hw272_10 := hx272_10
        have hw272_9 := hx272_9
        have hw272_8 := hx272_8
        have hw272_7 := hx272_7
        have hw272_6 := hx272_6
        have hw272_5 := hx272_5
        have hw272_4 := hx272_4
        have hw272_3 := hx272_3
        have hw272_2 := hx272_2
        have hw272_1 := hx272_1
        have hw272_0 := hx272_0
        cases e272
        replace hx272_0 := cb HB.out hx272_0
        replace hx272_1 := cb HB.out hx272_1
        replace hx272_2 := cb HB.out hx272_2
        replace hx272_3 := cb HB.out hx272_3
        replace hx272_4 := cb HB.out hx272_4
        replace hx272_5 := cb HB.out hx272_5
        replace hx272_6 := cb HB.out hx272_6
        replace hx272_7 := cb HB.out hx272_7
        replace hx272_8 := cb HB.out hx272_8
        replace hx272_9 := cb HB.out hx272_9
        replace hx272_10 := cb HB.out hx272_10
        replace hx272_11 := cb HB.out hx272_11
        replace hx272_12 := cb HB.out hx272_12
        replace hx272_13 := cb HB.out hx272_13
        replace p272 := eq_true p272
        replace q272 := eq_true q272
        refine start_ (n:=10) (S:=fun w' => w'.cell? (ad271.add ((x5_1).toNat * 14)) = some (.int .i64 ((rd_T48 l0 x5_1).f0)) ∧ w'.cell? ⟨(ad271.add ((x5_1).toNat * 14)).block,(ad271.add ((x5_1).toNat * 14)).off + 1,none⟩ = some (.int .i64 ((rd_T48 l0 x5_1).f1)) ∧ w'.cell? ⟨(ad271.add ((x5_1).toNat * 14)).block,(ad271.add ((x5_1).toNat * 14)).off + 2,none⟩ = some (.int .i64 ((rd_T48 l0 x5_1).f2)) ∧ w'.cell? ⟨(ad271.add ((x5_1).toNat * 14)).block,(ad271.add ((x5_1).toNat * 14)).off + 3,none⟩ = some (.int .i64 ((rd_T48 l0 x5_1).f3)) ∧ w'.cell? ⟨(ad271.add ((x5_1).toNat * 14)).block,(ad271.add ((x5_1).toNat * 14)).off + 4,none⟩ = some (.int .i64 ((rd_T48 l0 x5_1).f4)) ∧ w'.cell? ⟨(ad271.add ((x5_1).toNat * 14)).block,(ad271.add ((x5_1).toNat * 14)).off + 5,none⟩ = some (.int .i64 ((rd_T48 l0 x5_1).f5)) ∧ w'.cell? ⟨(ad271.add ((x5_1).toNat * 14)).block,(ad271.add ((x5_1).toNat * 14)).off + 6,none⟩ = some (.int .i64 ((rd_T48 l0 x5_1).f6)) ∧ w'.cell? ⟨(ad271.add ((x5_1).toNat * 14)).block,(ad271.add ((x5_1).toNat * 14)).off + 7,none⟩ = some (.slice A271_7 0 c271_7) ∧ w'.cell? ⟨(ad271.add ((x5_1).toNat * 14)).block,(ad271.add ((x5_1).toNat * 14)).off + 8,none⟩ = some (.int .i64 ((rd_T48 l0 x5_1).f8.f0)) ∧ w'.cell? ⟨(ad271.add ((x5_1).toNat * 14)).block,(ad271.add ((x5_1).toNat * 14)).off + 9,none⟩ = some (.int .i64 ((rd_T48 l0 x5_1).f8.f1)) ∧ w'.cell? ⟨(ad271.add ((x5_1).toNat * 14)).block,(ad271.add ((x5_1).toNat * 14)).off + 10,none⟩ = some (.int .i64 ((rd_T48 l0 x5_1).f8.f2)) ∧ w'.cell? ⟨(ad271.add ((x5_1).toNat * 14)).block,(ad271.add ((x5_1).toNat * 14)).off + 11,none⟩ = some (.int .i64 ((rd_T48 l0 x5_1).f8.f3)) ∧ w'.cell? ⟨(ad271.add ((x5_1).toNat * 14)).block,(ad271.add ((x5_1).toNat * 14)).off + 12,none⟩ = some (.int .i64 ((rd_T48 l0 x5_1).f8.f4)) ∧ w'.cell? ⟨(ad271.add ((x5_1).toNat * 14)).block,(ad271.add ((x5_1).toNat * 14)).off + 13,none⟩ = some (.int .i64 ((rd_T48 l0 x5_1).f8.f5)) ∧ w'.cell? (ad272.add ((x5_1).toNat * 14)) = some (.int .i64 ((rd_T48 l1 x5_1).f0)) ∧ w'.cell? ⟨(ad272.add ((x5_1).toNat * 14)).block,(ad272.add ((x5_1).toNat * 14)).off + 1,none⟩ = some (.int .i64 ((rd_T48 l1 x5_1).f1)) ∧ w'.cell? ⟨(ad272.add ((x5_1).toNat * 14)).block,(ad272.add ((x5_1).toNat * 14)).off + 2,none⟩ = some (.int .i64 ((rd_T48 l1 x5_1).f2)) ∧ w'.cell? ⟨(ad272.add ((x5_1).toNat * 14)).block,(ad272.add ((x5_1).toNat * 14)).off + 3,none⟩ = some (.int .i64 ((rd_T48 l1 x5_1).f3)) ∧ w'.cell? ⟨(ad272.add ((x5_1).toNat * 14)).block,(ad272.add ((x5_1).toNat * 14)).off + 4,none⟩ = some (.int .i64 ((rd_T48 l1 x5_1).f4)) ∧ w'.cell? ⟨(ad272.add ((x5_1).toNat * 14)).block,(ad272.add ((x5_1).toNat * 14)).off + 5,none⟩ = some (.int .i64 ((rd_T48 l1 x5_1).f5)) ∧ w'.cell? ⟨(ad272.add ((x5_1).toNat * 14)).block,(ad272.add ((x5_1).toNat * 14)).off + 6,none⟩ = some (.int .i64 ((rd_T48 l1 x5_1).f6)) ∧ w'.cell? ⟨(ad272.add ((x5_1).toNat * 14)).block,(ad272.add ((x5_1).toNat * 14)).off + 7,none⟩ = some (.slice A272_7 0 c272_7) ∧ w'.cell? ⟨(ad272.add ((x5_1).toNat * 14)).block,(ad272.add ((x5_1).toNat * 14)).off + 8,none⟩ = some (.int .i64 ((rd_T48 l1 x5_1).f8.f0)) ∧ w'.cell? ⟨(ad272.add ((x5_1).toNat * 14)).block,(ad272.add ((x5_1).toNat * 14)).off + 9,none⟩ = some (.int .i64 ((rd_T48 l1 x5_1).f8.f1)) ∧ w'.cell? ⟨(ad272.add ((x5_1).toNat * 14)).block,(ad272.add ((x5_1).toNat * 14)).off + 10,none⟩ = some (.int .i64 ((rd_T48 l1 x5_1).f8.f2)) ∧ w'.cell? ⟨(ad272.add ((x5_1).toNat * 14)).block,(ad272.add ((x5_1).toNat * 14)).off + 11,none⟩ = some (.int .i64 ((rd_T48 l1 x5_1).f8.f3)) ∧ w'.cell? ⟨(ad272.add ((x5_1).toNat * 14)).block,(ad272.add ((x5_1).toNat * 14)).off + 12,none⟩ = some (.int .i64 ((rd_T48 l1 x5_1).f8.f4)) ∧ w'.cell? ⟨(ad272.add ((x5_1).toNat * 14)).block,(ad272.add ((x5_1).toNat * 14)).off + 13,none⟩ = some (.int .i64 ((rd_T48 l1 x5_1).f8.f5))) (ds := []) (bm 10 0) (by kernel_rfl) rfl rfl ⟨(cb HB.out hw271_0),(cb HB.out hw271_1),(cb HB.out hw271_2),(cb HB.out hw271_3),(cb HB.out hw271_4),(cb HB.out hw271_5),(cb HB.out hw271_6),(cb HB.out hw271_7),(cb HB.out hw271_8),(cb HB.out hw271_9),(cb HB.out hw271_10),(cb HB.out hw271_11),(cb HB.out hw271_12),(cb HB.out hw271_13),(cb HB.out hw272_0),(cb HB.out hw272_1),(cb HB.out hw272_2),(cb HB.out hw272_3),(cb HB.out hw272_4),(cb HB.out hw272_5),(cb HB.out hw272_6),(cb HB.out hw272_7),(cb HB.out hw272_8),(cb HB.out hw272_9),(cb HB.out hw272_10),(cb HB.out hw272_11),(cb HB.out hw272_12),(cb HB.out hw272_13)⟩ (fun hHeld => ?_); refine with_tabW laws_eqReaderS.tab6 laws_eqReaderS.bits6 (fun HT_ HW_ => ?_)
        generalize wr.drew = w11 at HB hx271_0 hx271_1 hx271_10 hx271_11 hx271_12 hx271_13 hx271_2 hx271_3 hx271_4 hx271_5 hx271_6 hx271_7 hx271_8 hx271_9 hx272_0 hx272_1 hx272_10 hx272_11 hx272_12 hx272_13 hx272_2 hx272_3 hx272_4 hx272_5 hx272_6 hx272_7 hx272_8 hx272_9 hHeld ⊢
        refine pV_ 0 17 (bm 10 1) HT_.out ?_
        refine pV_ 1 18 (bm 10 3) HT_.out ?_
        refine pV_ 2 19 (bm 10 7) HT_.out ?_
        refine pV_ 4 21 (bm 10 23) HT_.out ?_
        refine pV_ 5 22 (bm 10 55) HT_.out ?_
        refine pV_ 6 23 (bm 10 119) HT_.out ?_
        refine tk 3 20 (bm 10 127) HT_.out HW_.out hHeld ?_
        refine tk 7 24 (bm 10 255) HT_.out HW_.out hHeld ?_
        refine one_ (i:=8) (N:=some 25) (bm 10 511) rfl rfl (one_of HT_.out (by kernel_rfl)) (by decide) (fun K hK => ?_)
        refine goes_ Try.func37 (by kernel_rfl) rfl #[.agg #[.int .i64 ((rd_T48 l0 x5_1).f0),.int .i64 ((rd_T48 l0 x5_1).f1),.int .i64 ((rd_T48 l0 x5_1).f2),.int .i64 ((rd_T48 l0 x5_1).f3),.int .i64 ((rd_T48 l0 x5_1).f4),.int .i64 ((rd_T48 l0 x5_1).f5),.int .i64 ((rd_T48 l0 x5_1).f6),.slice A271_7 0 c271_7,.int .i64 ((rd_T48 l0 x5_1).f8.f0),.int .i64 ((rd_T48 l0 x5_1).f8.f1),.int .i64 ((rd_T48 l0 x5_1).f8.f2),.int .i64 ((rd_T48 l0 x5_1).f8.f3),.int .i64 ((rd_T48 l0 x5_1).f8.f4),.int .i64 ((rd_T48 l0 x5_1).f8.f5)],.agg #[.int .i64 ((rd_T48 l1 x5_1).f0),.int .i64 ((rd_T48 l1 x5_1).f1),.int .i64 ((rd_T48 l1 x5_1).f2),.int .i64 ((rd_T48 l1 x5_1).f3),.int .i64 ((rd_T48 l1 x5_1).f4),.int .i64 ((rd_T48 l1 x5_1).f5),.int .i64 ((rd_T48 l1 x5_1).f6),.slice A272_7 0 c272_7,.int .i64 ((rd_T48 l1 x5_1).f8.f0),.int .i64 ((rd_T48 l1 x5_1).f8.f1),.int .i64 ((rd_T48 l1 x5_1).f8.f2),.int .i64 ((rd_T48 l1 x5_1).f8.f3),.int .i64 ((rd_T48 l1 x5_1).f8.f4),.int .i64 ((rd_T48 l1 x5_1).f8.f5)]] (by rfl) rfl rfl mA ?_
        with_reducible refine (laws_eqReader.calls k1 ((rd_T48 l0 x5_1).f0) ((rd_T48 l0 x5_1).f1) ((rd_T48 l0 x5_1).f2) ((rd_T48 l0 x5_1).f3) ((rd_T48 l0 x5_1).f4) ((rd_T48 l0 x5_1).f5) ((rd_T48 l0 x5_1).f6) _ _ ((rd_T48 l0 x5_1).f7) ((rd_T48 l0 x5_1).f8.f0) ((rd_T48 l0 x5_1).f8.f1) ((rd_T48 l0 x5_1).f8.f2) ((rd_T48 l0 x5_1).f8.f3) ((rd_T48 l0 x5_1).f8.f4) ((rd_T48 l0 x5_1).f8.f5) ((rd_T48 l1 x5_1).f0) ((rd_T48 l1 x5_1).f1) ((rd_T48 l1 x5_1).f2) ((rd_T48 l1 x5_1).f3) ((rd_T48 l1 x5_1).f4) ((rd_T48 l1 x5_1).f5) ((rd_T48 l1 x5_1).f6) _ _ ((rd_T48 l1 x5_1).f7) ((rd_T48 l1 x5_1).f8.f0) ((rd_T48 l1 x5_1).f8.f1) ((rd_T48 l1 x5_1).f8.f2) ((rd_T48 l1 x5_1).f8.f3) ((rd_T48 l1 x5_1).f8.f4) ((rd_T48 l1 x5_1).f8.f5) false _ A7.out).mono ?_
        rintro e w12 ⟨rfl,hb⟩
        refine ⟨_,rfl,?_⟩
        replace HB := bsA hb
        clear hb
        refine hK.out _ _ ⟨(cb HB.out hw271_0),(cb HB.out hw271_1),(cb HB.out hw271_2),(cb HB.out hw271_3),(cb HB.out hw271_4),(cb HB.out hw271_5),(cb HB.out hw271_6),(cb HB.out hw271_7),(cb HB.out hw271_8),(cb HB.out hw271_9),(cb HB.out hw271_10),(cb HB.out hw271_11),(cb HB.out hw271_12),(cb HB.out hw271_13),(cb HB.out hw272_0),(cb HB.out hw272_1),(cb HB.out hw272_2),(cb HB.out hw272_3),(cb HB.out hw272_4),(cb HB.out hw272_5),(cb HB.out hw272_6),(cb HB.out hw272_7),(cb HB.out hw272_8),(cb HB.out hw272_9),(cb HB.out hw272_10),(cb HB.out hw272_11),(cb HB.out hw272_12),(cb HB.out hw272_13)⟩ (fun hHeld => ?_)
        clear hK K
        refine nw 25 ?_
        refine pV_ 9 26 (bm 10 1023) HT_.out ?_
        refine done_ (done_of HT_.out (by kernel_rfl)) ?_
        try go_wp2
        go_ret
        exact ⟨by first | rfl | (simp only [i64_w,i32_w] <;> rfl) | (simp [errW_none,errW_some] <;> rfl) | (simp [*,errW_none,errW_some] <;> rfl),bA⟩
      ·rw [if_neg c6] at H
       exact absurd H (by simp)
     ·rw [if_neg c5] at H
      exact absurd H (by simp)
    ·rw [if_neg c4] at H
     have c4b0 : decide (x5_1 < (l0.length : Int)) = false := decide_eq_false c4
     clear c4
     obtain rfl := Option.some.inj H
     go_wp2
     go_ret
     exact ⟨by first | rfl | (simp only [i64_w,i32_w] <;> rfl) | (simp [errW_none,errW_some] <;> rfl) | (simp [*,errW_none,errW_some] <;> rfl),bA⟩
 ·rw [if_neg c3] at H
  have c3b0 : ((l0.length : Int) == (l1.length : Int)) = false := beq_eq_false_iff_ne.mpr c3
  have c3b1 : ((l0.length : Int) != (l1.length : Int)) = true := bne_iff_ne.mpr c3
  have c3b2 : (l0.length == l1.length) = false := by first | simpa using c3 | (simp at c3 ⊢; omega)
  obtain rfl := Option.some.inj H
  go_enter Try.func15,Try.ntmps15
  go_wp2
  go_ret
  exact ⟨by first | rfl | (simp only [i64_w,i32_w] <;> rfl) | (simp [errW_none,errW_some] <;> rfl) | (simp [*,errW_none,errW_some] <;> rfl),bA⟩

/-! ### laws_eqAnswer: function 39 -/
def laws_eqAnswer.f (a0_0 : Int) (a0_1 : Int) (a0_2 : Int) (a0_3 : Int) (a0_4 : Int) (a0_5 : Int) (a0_6 : Int) (a0_7 : Int) (a0_8 : Int) (a0_9 : Int) (a1_0 : Int) (a1_1 : Int) (a1_2 : Int) (a1_3 : Int) (a1_4 : Int) (a1_5 : Int) (a1_6 : Int) (a1_7 : Int) (a1_8 : Int) (a1_9 : Int) : Option (Bool) := if a0_0 = a1_0 then (if a0_1 = a1_1 then (if a0_2 = a1_2 then (if a0_3 = a1_3 then ((laws_eqAgg.f a0_4 a0_5 a0_6 a0_7 a0_8 a0_9 a1_4 a1_5 a1_6 a1_7 a1_8 a1_9).bind fun t276 => (if t276 = true then (some true) else (some false))) else (some false)) else (some false)) else (some false)) else (some false)
set_option maxHeartbeats 8000000 in
set_option maxRecDepth 100000 in
theorem laws_eqAnswer.calls (a0_0 : Int) (a0_1 : Int) (a0_2 : Int) (a0_3 : Int) (a0_4 : Int) (a0_5 : Int) (a0_6 : Int) (a0_7 : Int) (a0_8 : Int) (a0_9 : Int) (a1_0 : Int) (a1_1 : Int) (a1_2 : Int) (a1_3 : Int) (a1_4 : Int) (a1_5 : Int) (a1_6 : Int) (a1_7 : Int) (a1_8 : Int) (a1_9 : Int) (r : Bool) (w : World) (h : laws_eqAnswer.f a0_0 a0_1 a0_2 a0_3 a0_4 a0_5 a0_6 a0_7 a0_8 a0_9 a1_0 a1_1 a1_2 a1_3 a1_4 a1_5 a1_6 a1_7 a1_8 a1_9 = some r) :
  Calls Try.prog 39 #[.agg #[.int .i64 a0_0,.int .i64 a0_1,.int .i64 a0_2,.int .i64 a0_3,.int .i64 a0_4,.int .i64 a0_5,.int .i64 a0_6,.int .i64 a0_7,.int .i64 a0_8,.int .i64 a0_9],.agg #[.int .i64 a1_0,.int .i64 a1_1,.int .i64 a1_2,.int .i64 a1_3,.int .i64 a1_4,.int .i64 a1_5,.int .i64 a1_6,.int .i64 a1_7,.int .i64 a1_8,.int .i64 a1_9]] w fun e w' => e = .returned (.bool r) ∧ Below w.heap.size w w' := by
 have hu77 := Try.underlying77
 have hu42 := Try.underlying42
 have HB := Aside0.mk (Below.refl w.heap.size w)
 have H : (if a0_0 = a1_0 then (if a0_1 = a1_1 then (if a0_2 = a1_2 then (if a0_3 = a1_3 then ((laws_eqAgg.f a0_4 a0_5 a0_6 a0_7 a0_8 a0_9 a1_4 a1_5 a1_6 a1_7 a1_8 a1_9).bind fun t276 => (if t276 = true then (some true) else (some false))) else (some false)) else (some false)) else (some false)) else (some false)) = some r := h
 clear h
 by_cases c3 : a0_0 = a1_0
 ·rw [if_pos c3] at H
  have c3b0 : (a0_0 == a1_0) = true := beq_iff_eq.mpr c3
  have c3b1 : (a0_0 != a1_0) = false := bne_eq_false_iff_eq.mpr c3
  clear c3
  by_cases c4 : a0_1 = a1_1
  ·rw [if_pos c4] at H
   have c4b0 : (a0_1 == a1_1) = true := beq_iff_eq.mpr c4
   have c4b1 : (a0_1 != a1_1) = false := bne_eq_false_iff_eq.mpr c4
   clear c4
   by_cases c5 : a0_2 = a1_2
   ·rw [if_pos c5] at H
    have c5b0 : (a0_2 == a1_2) = true := beq_iff_eq.mpr c5
    have c5b1 : (a0_2 != a1_2) = false := bne_eq_false_iff_eq.mpr c5
    clear c5
    by_cases c6 : a0_3 = a1_3
    ·rw [if_pos c6] at H
     have c6b0 : (a0_3 == a1_3) = true := beq_iff_eq.mpr c6
     have c6b1 : (a0_3 != a1_3) = false := bne_eq_false_iff_eq.mpr c6
     clear c6
     replace H := Option.bind_eq_some_iff.mp H
     obtain ⟨t276,A70,H⟩ := H
     try dsimp only at H
     have A7 := Aside0.mk A70
     clear A70
     by_cases c8 : t276 = true
     ·subst c8
      rw [if_pos rfl] at H
      obtain rfl := Option.some.inj H
      go_enter Try.func39,Try.ntmps39
      go_wp2_with (first | ((with_reducible refine gate_dst (N:=2) rfl ?_); refine bxe (N:=2) (cs := #[.int .i64 a0_0,.int .i64 a0_1,.int .i64 a0_2,.int .i64 a0_3,.int .i64 a0_4,.int .i64 a0_5,.int .i64 a0_6,.int .i64 a0_7,.int .i64 a0_8,.int .i64 a0_9]) (t:=77) ?_; intro gb274 hg w9 hbox hb; have BK274 := Aside0.mk (hbox); have GW274 := Aside0.mk ((gw hg : w.heap.size ≤ gb274)); have GE274 := GW274; replace HB := bsA hb; clear hb hbox hg) | ((with_reducible refine gate_dst (N:=3) rfl ?_); refine bxe (N:=3) (cs := #[.int .i64 a1_0,.int .i64 a1_1,.int .i64 a1_2,.int .i64 a1_3,.int .i64 a1_4,.int .i64 a1_5,.int .i64 a1_6,.int .i64 a1_7,.int .i64 a1_8,.int .i64 a1_9]) (t:=77) ?_; intro gb275 hg w10 hbox hb; have BK275 := Aside0.mk (hbox); have GW275 := Aside0.mk ((gw hg : w.heap.size ≤ gb275)); have GE275 := GW275; replace HB := bsA hb; have NB274_275 := Aside0.mk ((nl hg BK274.out)); have NB275_274 := Aside0.mk ((ng hg BK274.out)); replace BK274 := bbA BK274 hb; clear hb hbox hg; have hnb11 := NB274_275.out; have hnc11 := NB275_274.out; obtain ⟨hcz12_0,hcz12_1,hcz12_2,hcz12_3,hcz12_4,hcz12_5,hcz12_6,hcz12_7,hcz12_8,hcz12_9⟩ := cl10 BK274.out; obtain ⟨hfz12_0,hfz12_1,hfz12_2,hfz12_3,hfz12_4,hfz12_5,hfz12_6,hfz12_7,hfz12_8,hfz12_9⟩ := fz10 BK274.out; obtain ⟨hcz13_0,hcz13_1,hcz13_2,hcz13_3,hcz13_4,hcz13_5,hcz13_6,hcz13_7,hcz13_8,hcz13_9⟩ := cl10 BK275.out; obtain ⟨hfz13_0,hfz13_1,hfz13_2,hfz13_3,hfz13_4,hfz13_5,hfz13_6,hfz13_7,hfz13_8,hfz13_9⟩ := fz10 BK275.out) | ((with_reducible refine gate_callee (f:=49) rfl ?_); refine goesL_ (some 29) rfl rfl Try.func49 (by kernel_rfl) rfl #[.agg #[.int .i64 a0_4,.int .i64 a0_5,.int .i64 a0_6,.int .i64 a0_7,.int .i64 a0_8,.int .i64 a0_9],.agg #[.int .i64 a1_4,.int .i64 a1_5,.int .i64 a1_6,.int .i64 a1_7,.int .i64 a1_8,.int .i64 a1_9]] rfl mA ?_; (with_reducible refine (laws_eqAgg.calls a0_4 a0_5 a0_6 a0_7 a0_8 a0_9 a1_4 a1_5 a1_6 a1_7 a1_8 a1_9 true _ A7.out).mono ?_); rintro e w14 ⟨rfl,hb⟩; refine ⟨_,rfl,?_⟩; replace BK274 := bbA BK274 hb; replace BK275 := bbA BK275 hb; replace HB := bsA hb; clear hb))
      go_ret
      exact ⟨by first | rfl | (simp [errW_none,errW_some] <;> rfl) | (simp [*,errW_none,errW_some] <;> rfl),bA⟩
     ·replace c8 := Bool.eq_false_iff.mpr c8
      subst c8
      rw [if_neg (show ¬ (false = true) by decide)] at H
      obtain rfl := Option.some.inj H
      go_enter Try.func39,Try.ntmps39
      go_wp2_with (first | ((with_reducible refine gate_dst (N:=2) rfl ?_); refine bxe (N:=2) (cs := #[.int .i64 a0_0,.int .i64 a0_1,.int .i64 a0_2,.int .i64 a0_3,.int .i64 a0_4,.int .i64 a0_5,.int .i64 a0_6,.int .i64 a0_7,.int .i64 a0_8,.int .i64 a0_9]) (t:=77) ?_; intro gb274 hg w15 hbox hb; have BK274 := Aside0.mk (hbox); have GW274 := Aside0.mk ((gw hg : w.heap.size ≤ gb274)); have GE274 := GW274; replace HB := bsA hb; clear hb hbox hg) | ((with_reducible refine gate_dst (N:=3) rfl ?_); refine bxe (N:=3) (cs := #[.int .i64 a1_0,.int .i64 a1_1,.int .i64 a1_2,.int .i64 a1_3,.int .i64 a1_4,.int .i64 a1_5,.int .i64 a1_6,.int .i64 a1_7,.int .i64 a1_8,.int .i64 a1_9]) (t:=77) ?_; intro gb275 hg w16 hbox hb; have BK275 := Aside0.mk (hbox); have GW275 := Aside0.mk ((gw hg : w.heap.size ≤ gb275)); have GE275 := GW275; replace HB := bsA hb; have NB274_275 := Aside0.mk ((nl hg BK274.out)); have NB275_274 := Aside0.mk ((ng hg BK274.out)); replace BK274 := bbA BK274 hb; clear hb hbox hg; have hnb17 := NB274_275.out; have hnc17 := NB275_274.out; obtain ⟨hcz18_0,hcz18_1,hcz18_2,hcz18_3,hcz18_4,hcz18_5,hcz18_6,hcz18_7,hcz18_8,hcz18_9⟩ := cl10 BK274.out; obtain ⟨hfz18_0,hfz18_1,hfz18_2,hfz18_3,hfz18_4,hfz18_5,hfz18_6,hfz18_7,hfz18_8,hfz18_9⟩ := fz10 BK274.out; obtain ⟨hcz19_0,hcz19_1,hcz19_2,hcz19_3,hcz19_4,hcz19_5,hcz19_6,hcz19_7,hcz19_8,hcz19_9⟩ := cl10 BK275.out; obtain ⟨hfz19_0,hfz19_1,hfz19_2,hfz19_3,hfz19_4,hfz19_5,hfz19_6,hfz19_7,hfz19_8,hfz19_9⟩ := fz10 BK275.out) | ((with_reducible refine gate_callee (f:=49) rfl ?_); refine goesL_ (some 29) rfl rfl Try.func49 (by kernel_rfl) rfl #[.agg #[.int .i64 a0_4,.int .i64 a0_5,.int .i64 a0_6,.int .i64 a0_7,.int .i64 a0_8,.int .i64 a0_9],.agg #[.int .i64 a1_4,.int .i64 a1_5,.int .i64 a1_6,.int .i64 a1_7,.int .i64 a1_8,.int .i64 a1_9]] rfl mA ?_; (with_reducible refine (laws_eqAgg.calls a0_4 a0_5 a0_6 a0_7 a0_8 a0_9 a1_4 a1_5 a1_6 a1_7 a1_8 a1_9 false _ A7.out).mono ?_); rintro e w20 ⟨rfl,hb⟩; refine ⟨_,rfl,?_⟩; replace BK274 := bbA BK274 hb; replace BK275 := bbA BK275 hb; replace HB := bsA hb; clear hb))
      go_ret
      exact ⟨by first | rfl | (simp [errW_none,errW_some] <;> rfl) | (simp [*,errW_none,errW_some] <;> rfl),bA⟩
    ·rw [if_neg c6] at H
     have c6b0 : (a0_3 == a1_3) = false := beq_eq_false_iff_ne.mpr c6
     have c6b1 : (a0_3 != a1_3) = true := bne_iff_ne.mpr c6
     obtain rfl := Option.some.inj H
     go_enter Try.func39,Try.ntmps39
     go_wp2
     go_ret
     exact ⟨by first | rfl | (simp [errW_none,errW_some] <;> rfl) | (simp [*,errW_none,errW_some] <;> rfl),bA⟩
   ·rw [if_neg c5] at H
    have c5b0 : (a0_2 == a1_2) = false := beq_eq_false_iff_ne.mpr c5
    have c5b1 : (a0_2 != a1_2) = true := bne_iff_ne.mpr c5
    obtain rfl := Option.some.inj H
    go_enter Try.func39,Try.ntmps39
    go_wp2
    go_ret
    exact ⟨by first | rfl | (simp [errW_none,errW_some] <;> rfl) | (simp [*,errW_none,errW_some] <;> rfl),bA⟩
  ·rw [if_neg c4] at H
   have c4b0 : (a0_1 == a1_1) = false := beq_eq_false_iff_ne.mpr c4
   have c4b1 : (a0_1 != a1_1) = true := bne_iff_ne.mpr c4
   obtain rfl := Option.some.inj H
   go_enter Try.func39,Try.ntmps39
   go_wp2
   go_ret
   exact ⟨by first | rfl | (simp [errW_none,errW_some] <;> rfl) | (simp [*,errW_none,errW_some] <;> rfl),bA⟩
 ·rw [if_neg c3] at H
  have c3b0 : (a0_0 == a1_0) = false := beq_eq_false_iff_ne.mpr c3
  have c3b1 : (a0_0 != a1_0) = true := bne_iff_ne.mpr c3
  obtain rfl := Option.some.inj H
  go_enter Try.func39,Try.ntmps39
  go_wp2
  go_ret
  exact ⟨by first | rfl | (simp [errW_none,errW_some] <;> rfl) | (simp [*,errW_none,errW_some] <;> rfl),bA⟩

end Go.Proofs.Ytmfichcgmofpkaa.XFnExactNewFleet
