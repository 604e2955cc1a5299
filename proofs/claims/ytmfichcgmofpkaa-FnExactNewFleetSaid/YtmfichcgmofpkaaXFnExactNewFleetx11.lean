-- Printed by this session's own program wip/tools/xprint.py, which widens the kit's print. Not trusted: Lean checks it.
import Derived.Test.YtmfichcgmofpkaaXFnExactNewFleetx0
import Derived.Test.YtmfichcgmofpkaaXFnExactNewFleetx8
namespace Go.Proofs.Ytmfichcgmofpkaa.XFnExactNewFleet
open List (setIfInBounds_toArray set_cons_zero set_cons_succ)
open Go.RowKit Go.Proofs.YtmfichcgmofpkaaW.PrintWords Go.Proofs.YtmfichcgmofpkaaW.PrintLast Go.Proofs.YtmfichcgmofpkaaW.PrintMore
attribute [local go_sem] max2_int min2_int max_two min_two max_three min_three max_four min_four   -- for this text's walks alone
set_option linter.unusedVariables false
set_option linter.unusedSimpArgs false

/-! ### laws_heldObjectS: function 43 -/
def laws_heldObjectS.l0 : Nat → List (S84) → Int → Int → Option (Int)
 | 0,_,_,_ => none
 | k + 1,x0,x1,x5 => if x5 < (x0.length : Int) then (if 0 ≤ x5 then ((laws_markText.f k x1).bind fun t363 => (if ((rd_T84 x0 x5).f0).toList = t363.toList then (if ((rd_T84 x0 x5).f1) = (wrap64 (x1 + 1)) then ((laws_markText.f k (wrap64 ((wrap64 (x1 + 1)) + 1))).bind fun t366 => (if ((rd_T84 x0 x5).f2).toList = t366.toList then (laws_heldObjectS.l0 k x0 (wrap64 ((wrap64 ((wrap64 (x1 + 1)) + 1)) + 1)) (wrap64 (x5 + 1))) else (some (-1)))) else (some (-1))) else (some (-1)))) else (none)) else (some x1)
def laws_heldObjectS.f (k : Nat) (l0 : List (S84)) (a1 : Int) : Option (Int) := laws_heldObjectS.l0 k l0 a1 0
theorem laws_heldObjectS.mono_l : ∀ k,(∀ y0 y1 y2,LeO (laws_heldObjectS.l0 k y0 y1 y2) (laws_heldObjectS.l0 (k + 1) y0 y1 y2))
 | 0 => fun _ _ _ r h => by simp [laws_heldObjectS.l0] at h
 | k + 1 => by
  have ih0 := laws_heldObjectS.mono_l k
  ·intro y0 y1 y2
   unfold laws_heldObjectS.l0
   repeat' first
   | (with_reducible first | exact ih0 .. | exact laws_markText.mono .. | exact LeO.refl _ | exact LeO.none _ | refine LeO.ite ?_ ?_ | refine LeO.bind ?_ (fun _ => ?_))
   | exact LeO.none _ | refine LeO.ite ?_ ?_ | refine LeO.bind ?_ (fun _ => ?_)
theorem laws_heldObjectS.mono : ∀ a0 a1 k,LeO (laws_heldObjectS.f k a0 a1) (laws_heldObjectS.f (k + 1) a0 a1) := by
 intro a0 a1 k
 have ih0 := laws_heldObjectS.mono_l k
 unfold laws_heldObjectS.f
 repeat' first
 | (with_reducible first | exact ih0 .. | exact laws_markText.mono .. | exact LeO.refl _ | exact LeO.none _ | refine LeO.ite ?_ ?_ | refine LeO.bind ?_ (fun _ => ?_))
 | exact LeO.none _ | refine LeO.ite ?_ ?_ | refine LeO.bind ?_ (fun _ => ?_)
def laws_heldObjectS.T4 : Bool × List (List Nat × List Nat) := (true,[([],[]),([],[]),([0,1],[0,1]),([2],[2]),([3],[3]),([],[]),([5],[5]),([4,6],[4,6])])
def laws_heldObjectS.B4 : List Nat := [0,0,3,7,15,0,32,127]
theorem laws_heldObjectS.tab4 : rtab .any (opsOf Try.f43 4) = laws_heldObjectS.T4 := by kernel_rfl
theorem laws_heldObjectS.bits4 : waitsOk laws_heldObjectS.T4.2 laws_heldObjectS.B4 = true := by kernel_rfl
def laws_heldObjectS.T10 : Bool × List (List Nat × List Nat) := (true,[([],[]),([],[]),([0,1],[0,1]),([2],[2]),([3],[3]),([],[]),([5],[5]),([4,6],[4,6])])
def laws_heldObjectS.B10 : List Nat := [0,0,3,7,15,0,32,127]
theorem laws_heldObjectS.tab10 : rtab .any (opsOf Try.f43 10) = laws_heldObjectS.T10 := by kernel_rfl
theorem laws_heldObjectS.bits10 : waitsOk laws_heldObjectS.T10.2 laws_heldObjectS.B10 = true := by kernel_rfl
set_option maxHeartbeats 8000000 in
set_option maxRecDepth 100000 in
theorem laws_heldObjectS.calls (k : Nat) (A0 : Option Addr) (c0 : Nat) (l0 : List (S84)) (a1 : Int) (r : Int) (w : World) (hr0 : Kd.C k84 w A0 l0.length l0) (hc0 : l0.length ≤ c0) (h : laws_heldObjectS.f k l0 a1 = some r) :
  Calls Try.prog 43 #[.slice A0 l0.length c0,.int .i64 a1] w fun e w' => e = .returned (.int .i64 r) ∧ Below w.heap.size w w' := by
 have HR0 := Aside0.mk hr0
 have HC0 := Aside0.mk hc0
 clear hr0 hc0
 have HB := Aside0.mk (Below.refl w.heap.size w)
 have H : (laws_heldObjectS.l0 k l0 a1 0) = some r := h
 clear h
 have H' := Aside0.mk H
 clear H
 go_enter Try.func43,Try.ntmps43
 go_wp2
 go_loopg [1,5] k (fun kq v1 v5 w' => ∃ (x1_1 : Int) (x5_1 : Int),v1 = .int .i64 x1_1 ∧ v5 = .int .i64 x5_1 ∧ Aside0 (laws_heldObjectS.l0 kq l0 x1_1 x5_1 = some r) ∧ Aside0 (kq ≤ k) ∧ Aside0 (Below w.heap.size w w'))
 case atStart => exact ⟨(a1),(0),(by first | rfl | (simp; done) | (simp [*]; done)),(by first | rfl | (simp; done) | (simp [*]; done)),H',⟨Nat.le_refl _⟩,⟨bA⟩⟩
 case round =>
  clear H'
  try clear p2
  obtain ⟨x1_1,x5_1,rfl,rfl,HA,HK1,HB⟩ := hrel
  cases gk with
  | zero => exact absurd HA.out (by simp [laws_heldObjectS.l0])
  | succ k1 =>
   have H := HA.out
   clear HA
   simp only [laws_heldObjectS.l0] at H
   by_cases c3 : x5_1 < (l0.length : Int)
   ·rw [if_pos c3] at H
    have c3b0 : decide (x5_1 < (l0.length : Int)) = true := decide_eq_true c3
    clear c3
    by_cases c4 : 0 ≤ x5_1
    ·rw [if_pos c4] at H
     have c4b0 : decide (0 ≤ x5_1) = true := decide_eq_true c4
     clear c4
     replace H := Option.bind_eq_some_iff.mp H
     obtain ⟨t363,A50,H⟩ := H
     try dsimp only at H
     have A5 := Aside0.mk A50
     clear A50
     by_cases c6 : ((rd_T84 l0 x5_1).f0).toList = t363.toList
     ·rw [if_pos c6] at H
      have c6b0 : (((rd_T84 l0 x5_1).f0).toList == t363.toList) = true := beq_iff_eq.mpr c6
      have c6b1 : (((rd_T84 l0 x5_1).f0).toList != t363.toList) = false := bne_eq_false_iff_eq.mpr c6
      clear c6
      by_cases c7 : ((rd_T84 l0 x5_1).f1) = (wrap64 (x1_1 + 1))
      ·rw [if_pos c7] at H
       have c7b0 : (((rd_T84 l0 x5_1).f1) == (wrap64 (x1_1 + 1))) = true := beq_iff_eq.mpr c7
       have c7b1 : (((rd_T84 l0 x5_1).f1) != (wrap64 (x1_1 + 1))) = false := bne_eq_false_iff_eq.mpr c7
       clear c7
       replace H := Option.bind_eq_some_iff.mp H
       obtain ⟨t366,A80,H⟩ := H
       try dsimp only at H
       have A8 := Aside0.mk A80
       clear A80
       by_cases c9 : ((rd_T84 l0 x5_1).f2).toList = t366.toList
       ·rw [if_pos c9] at H
        have c9b0 : (((rd_T84 l0 x5_1).f2).toList == t366.toList) = true := beq_iff_eq.mpr c9
        have c9b1 : (((rd_T84 l0 x5_1).f2).toList != t366.toList) = false := bne_eq_false_iff_eq.mpr c9
        clear c9
        have H' := Aside0.mk H
        clear H
        try go_wp2
        replace HB := Aside0.mk (below_drew1 HB.out)
        have p362 : 0 ≤ (x5_1 : Int) := od
        have q362 : x5_1 < (l0.length : Int) := od
        obtain ⟨ad362,e362,HW362⟩ := at_T84 HR0.out x5_1 p362 q362
        cases e362
        obtain ⟨hx362_0,hx362_1,hx362_2⟩ := ew3 HB.out HW362
        replace p362 := eq_true p362
        replace q362 := eq_true q362
        refine start_ (n:=8) (S:=fun w' => w'.cell? (ad362.add ((x5_1).toNat * 3)) = some (.string ((rd_T84 l0 x5_1).f0)) ∧ w'.cell? ⟨(ad362.add ((x5_1).toNat * 3)).block,(ad362.add ((x5_1).toNat * 3)).off + 1,none⟩ = some (.int .i64 ((rd_T84 l0 x5_1).f1)) ∧ w'.cell? ⟨(ad362.add ((x5_1).toNat * 3)).block,(ad362.add ((x5_1).toNat * 3)).off + 2,none⟩ = some (.string ((rd_T84 l0 x5_1).f2))) (ds := []) (bm 8 0) (by kernel_rfl) rfl rfl (ew3 HB.out HW362) (fun hHeld => ?_); refine with_tabW laws_heldObjectS.tab4 laws_heldObjectS.bits4 (fun HT_ HW_ => ?_)
        generalize wr.drew = w10 at HB hx362_0 hx362_1 hx362_2 hHeld ⊢
        refine pV_ 0 12 (bm 8 1) HT_.out ?_
        refine pV_ 1 13 (bm 8 3) HT_.out ?_
        refine pV_ 2 14 (bm 8 7) HT_.out ?_
        refine pV_ 3 15 (bm 8 15) HT_.out ?_
        refine pV_ 5 17 (bm 8 47) HT_.out ?_
        refine tk 4 16 (bm 8 63) HT_.out HW_.out hHeld ?_
        refine one_ (i:=6) (N:=some 18) (bm 8 127) rfl rfl (one_of HT_.out (by kernel_rfl)) (by decide) (fun K hK => ?_)
        refine goes_ Try.func41 (by kernel_rfl) rfl #[.int .i64 x1_1] (by rfl) rfl rfl mA ?_
        with_reducible refine (laws_markText.calls k1 x1_1 t363 _ A5.out).mono ?_
        rintro e w11 ⟨rfl,hb⟩
        refine ⟨_,rfl,?_⟩
        replace HB := bsA hb
        clear hb
        refine hK.out _ _ (ew3 HB.out HW362) (fun hHeld => ?_)
        clear hK K
        refine nw 18 ?_
        refine pV_ 7 19 (bm 8 255) HT_.out ?_
        refine done_ (done_of HT_.out (by kernel_rfl)) ?_
        have p364 : 0 ≤ (x5_1 : Int) := od
        have q364 : x5_1 < (l0.length : Int) := od
        obtain ⟨ad364,e364,hx364_0,hx364_1,hx364_2⟩ := ea3 HB.out (at_T84 HR0.out x5_1 p364 q364)
        obtain rfl : ad362 = ad364 := (by injection e364)
        replace p364 := eq_true p364
        replace q364 := eq_true q364
        try go_wp2
        replace HB := Aside0.mk (below_drew1 HB.out)
        have p365 : 0 ≤ (x5_1 : Int) := od
        have q365 : x5_1 < (l0.length : Int) := od
        obtain ⟨ad365,e365,HW365⟩ := at_T84 HR0.out x5_1 p365 q365
        obtain rfl : ad362 = ad365 := (by injection e365)
        obtain ⟨hx365_0,hx365_1,hx365_2⟩ := ew3 HB.out HW365
        replace p365 := eq_true p365
        replace q365 := eq_true q365
        refine start_ (n:=8) (S:=fun w' => w'.cell? (ad362.add ((x5_1).toNat * 3)) = some (.string ((rd_T84 l0 x5_1).f0)) ∧ w'.cell? ⟨(ad362.add ((x5_1).toNat * 3)).block,(ad362.add ((x5_1).toNat * 3)).off + 1,none⟩ = some (.int .i64 ((rd_T84 l0 x5_1).f1)) ∧ w'.cell? ⟨(ad362.add ((x5_1).toNat * 3)).block,(ad362.add ((x5_1).toNat * 3)).off + 2,none⟩ = some (.string ((rd_T84 l0 x5_1).f2))) (ds := []) (bm 8 0) (by kernel_rfl) rfl rfl (ew3 HB.out HW365) (fun hHeld => ?_); refine with_tabW laws_heldObjectS.tab10 laws_heldObjectS.bits10 (fun HT_ HW_ => ?_)
        generalize w11.drew = w12 at HB hx365_0 hx365_1 hx365_2 hHeld ⊢
        refine pV_ 0 31 (bm 8 1) HT_.out ?_
        refine pV_ 1 32 (bm 8 3) HT_.out ?_
        refine pV_ 2 33 (bm 8 7) HT_.out ?_
        refine pV_ 3 34 (bm 8 15) HT_.out ?_
        refine pV_ 5 36 (bm 8 47) HT_.out ?_
        refine tk 4 35 (bm 8 63) HT_.out HW_.out hHeld ?_
        refine one_ (i:=6) (N:=some 37) (bm 8 127) rfl rfl (one_of HT_.out (by kernel_rfl)) (by decide) (fun K hK => ?_)
        refine goes_ Try.func41 (by kernel_rfl) rfl #[.int .i64 (wrap64 ((wrap64 (x1_1 + 1)) + 1))] (by rfl) rfl rfl mA ?_
        with_reducible refine (laws_markText.calls k1 (wrap64 ((wrap64 (x1_1 + 1)) + 1)) t366 _ A8.out).mono ?_
        rintro e w13 ⟨rfl,hb⟩
        refine ⟨_,rfl,?_⟩
        replace HB := bsA hb
        clear hb
        refine hK.out _ _ (ew3 HB.out HW365) (fun hHeld => ?_)
        clear hK K
        refine nw 37 ?_
        refine pV_ 7 38 (bm 8 255) HT_.out ?_
        refine done_ (done_of HT_.out (by kernel_rfl)) ?_
        try go_wp2
        go_roundg k1
        case measure => have := HK1.out; omega
        case rel => exact ⟨(wrap64 ((wrap64 ((wrap64 (x1_1 + 1)) + 1)) + 1)),(wrap64 (x5_1 + 1)),(by first | rfl | (simp; done) | (simp [*]; done)),(by first | rfl | (simp; done) | (simp [*]; done)),H',⟨by have := HK1.out; omega⟩,⟨bA⟩⟩
       ·rw [if_neg c9] at H
        have c9b0 : (((rd_T84 l0 x5_1).f2).toList == t366.toList) = false := beq_eq_false_iff_ne.mpr c9
        have c9b1 : (((rd_T84 l0 x5_1).f2).toList != t366.toList) = true := bne_iff_ne.mpr c9
        obtain rfl := Option.some.inj H
        try go_wp2
        replace HB := Aside0.mk (below_drew1 HB.out)
        have p362 : 0 ≤ (x5_1 : Int) := od
        have q362 : x5_1 < (l0.length : Int) := od
        obtain ⟨ad362,e362,HW362⟩ := at_T84 HR0.out x5_1 p362 q362
        cases e362
        obtain ⟨hx362_0,hx362_1,hx362_2⟩ := ew3 HB.out HW362
        replace p362 := eq_true p362
        replace q362 := eq_true q362
        refine start_ (n:=8) (S:=fun w' => w'.cell? (ad362.add ((x5_1).toNat * 3)) = some (.string ((rd_T84 l0 x5_1).f0)) ∧ w'.cell? ⟨(ad362.add ((x5_1).toNat * 3)).block,(ad362.add ((x5_1).toNat * 3)).off + 1,none⟩ = some (.int .i64 ((rd_T84 l0 x5_1).f1)) ∧ w'.cell? ⟨(ad362.add ((x5_1).toNat * 3)).block,(ad362.add ((x5_1).toNat * 3)).off + 2,none⟩ = some (.string ((rd_T84 l0 x5_1).f2))) (ds := []) (bm 8 0) (by kernel_rfl) rfl rfl (ew3 HB.out HW362) (fun hHeld => ?_); refine with_tabW laws_heldObjectS.tab4 laws_heldObjectS.bits4 (fun HT_ HW_ => ?_)
        generalize wr.drew = w14 at HB hx362_0 hx362_1 hx362_2 hHeld ⊢
        refine pV_ 0 12 (bm 8 1) HT_.out ?_
        refine pV_ 1 13 (bm 8 3) HT_.out ?_
        refine pV_ 2 14 (bm 8 7) HT_.out ?_
        refine pV_ 3 15 (bm 8 15) HT_.out ?_
        refine pV_ 5 17 (bm 8 47) HT_.out ?_
        refine tk 4 16 (bm 8 63) HT_.out HW_.out hHeld ?_
        refine one_ (i:=6) (N:=some 18) (bm 8 127) rfl rfl (one_of HT_.out (by kernel_rfl)) (by decide) (fun K hK => ?_)
        refine goes_ Try.func41 (by kernel_rfl) rfl #[.int .i64 x1_1] (by rfl) rfl rfl mA ?_
        with_reducible refine (laws_markText.calls k1 x1_1 t363 _ A5.out).mono ?_
        rintro e w15 ⟨rfl,hb⟩
        refine ⟨_,rfl,?_⟩
        replace HB := bsA hb
        clear hb
        refine hK.out _ _ (ew3 HB.out HW362) (fun hHeld => ?_)
        clear hK K
        refine nw 18 ?_
        refine pV_ 7 19 (bm 8 255) HT_.out ?_
        refine done_ (done_of HT_.out (by kernel_rfl)) ?_
        have p364 : 0 ≤ (x5_1 : Int) := od
        have q364 : x5_1 < (l0.length : Int) := od
        obtain ⟨ad364,e364,hx364_0,hx364_1,hx364_2⟩ := ea3 HB.out (at_T84 HR0.out x5_1 p364 q364)
        obtain rfl : ad362 = ad364 := (by injection e364)
        replace p364 := eq_true p364
        replace q364 := eq_true q364
        try go_wp2
        replace HB := Aside0.mk (below_drew1 HB.out)
        have p365 : 0 ≤ (x5_1 : Int) := od
        have q365 : x5_1 < (l0.length : Int) := od
        obtain ⟨ad365,e365,HW365⟩ := at_T84 HR0.out x5_1 p365 q365
        obtain rfl : ad362 = ad365 := (by injection e365)
        obtain ⟨hx365_0,hx365_1,hx365_2⟩ := ew3 HB.out HW365
        replace p365 := eq_true p365
        replace q365 := eq_true q365
        refine start_ (n:=8) (S:=fun w' => w'.cell? (ad362.add ((x5_1).toNat * 3)) = some (.string ((rd_T84 l0 x5_1).f0)) ∧ w'.cell? ⟨(ad362.add ((x5_1).toNat * 3)).block,(ad362.add ((x5_1).toNat * 3)).off + 1,none⟩ = some (.int .i64 ((rd_T84 l0 x5_1).f1)) ∧ w'.cell? ⟨(ad362.add ((x5_1).toNat * 3)).block,(ad362.add ((x5_1).toNat * 3)).off + 2,none⟩ = some (.string ((rd_T84 l0 x5_1).f2))) (ds := []) (bm 8 0) (by kernel_rfl) rfl rfl (ew3 HB.out HW365) (fun hHeld => ?_); refine with_tabW laws_heldObjectS.tab10 laws_heldObjectS.bits10 (fun HT_ HW_ => ?_)
        generalize w15.drew = w16 at HB hx365_0 hx365_1 hx365_2 hHeld ⊢
        refine pV_ 0 31 (bm 8 1) HT_.out ?_
        refine pV_ 1 32 (bm 8 3) HT_.out ?_
        refine pV_ 2 33 (bm 8 7) HT_.out ?_
        refine pV_ 3 34 (bm 8 15) HT_.out ?_
        refine pV_ 5 36 (bm 8 47) HT_.out ?_
        refine tk 4 35 (bm 8 63) HT_.out HW_.out hHeld ?_
        refine one_ (i:=6) (N:=some 37) (bm 8 127) rfl rfl (one_of HT_.out (by kernel_rfl)) (by decide) (fun K hK => ?_)
        refine goes_ Try.func41 (by kernel_rfl) rfl #[.int .i64 (wrap64 ((wrap64 (x1_1 + 1)) + 1))] (by rfl) rfl rfl mA ?_
        with_reducible refine (laws_markText.calls k1 (wrap64 ((wrap64 (x1_1 + 1)) + 1)) t366 _ A8.out).mono ?_
        rintro e w17 ⟨rfl,hb⟩
        refine ⟨_,rfl,?_⟩
        replace HB := bsA hb
        clear hb
        refine hK.out _ _ (ew3 HB.out HW365) (fun hHeld => ?_)
        clear hK K
        refine nw 37 ?_
        refine pV_ 7 38 (bm 8 255) HT_.out ?_
        refine done_ (done_of HT_.out (by kernel_rfl)) ?_
        try go_wp2
        go_ret
        exact ⟨by first | rfl | (simp only [i64_w,i32_w] <;> rfl) | (simp [errW_none,errW_some] <;> rfl) | (simp [*,errW_none,errW_some] <;> rfl),bA⟩
      ·rw [if_neg c7] at H
       have c7b0 : (((rd_T84 l0 x5_1).f1) == (wrap64 (x1_1 + 1))) = false := beq_eq_false_iff_ne.mpr c7
       have c7b1 : (((rd_T84 l0 x5_1).f1) != (wrap64 (x1_1 + 1))) = true := bne_iff_ne.mpr c7
       obtain rfl := Option.some.inj H
       try go_wp2
       replace HB := Aside0.mk (below_drew1 HB.out)
       have p362 : 0 ≤ (x5_1 : Int) := od
       have q362 : x5_1 < (l0.length : Int) := od
       obtain ⟨ad362,e362,HW362⟩ := at_T84 HR0.out x5_1 p362 q362
       cases e362
       obtain ⟨hx362_0,hx362_1,hx362_2⟩ := ew3 HB.out HW362
       replace p362 := eq_true p362
       replace q362 := eq_true q362
       refine start_ (n:=8) (S:=fun w' => w'.cell? (ad362.add ((x5_1).toNat * 3)) = some (.string ((rd_T84 l0 x5_1).f0)) ∧ w'.cell? ⟨(ad362.add ((x5_1).toNat * 3)).block,(ad362.add ((x5_1).toNat * 3)).off + 1,none⟩ = some (.int .i64 ((rd_T84 l0 x5_1).f1)) ∧ w'.cell? ⟨(ad362.add ((x5_1).toNat * 3)).block,(ad362.add ((x5_1).toNat * 3)).off + 2,none⟩ = some (.string ((rd_T84 l0 x5_1).f2))) (ds := []) (bm 8 0) (by kernel_rfl) rfl rfl (ew3 HB.out HW362) (fun hHeld => ?_); refine with_tabW laws_heldObjectS.tab4 laws_heldObjectS.bits4 (fun HT_ HW_ => ?_)
       generalize wr.drew = w18 at HB hx362_0 hx362_1 hx362_2 hHeld ⊢
       refine pV_ 0 12 (bm 8 1) HT_.out ?_
       refine pV_ 1 13 (bm 8 3) HT_.out ?_
       refine pV_ 2 14 (bm 8 7) HT_.out ?_
       refine pV_ 3 15 (bm 8 15) HT_.out ?_
       refine pV_ 5 17 (bm 8 47) HT_.out ?_
       refine tk 4 16 (bm 8 63) HT_.out HW_.out hHeld ?_
       refine one_ (i:=6) (N:=some 18) (bm 8 127) rfl rfl (one_of HT_.out (by kernel_rfl)) (by decide) (fun K hK => ?_)
       refine goes_ Try.func41 (by kernel_rfl) rfl #[.int .i64 x1_1] (by rfl) rfl rfl mA ?_
       with_reducible refine (laws_markText.calls k1 x1_1 t363 _ A5.out).mono ?_
       rintro e w19 ⟨rfl,hb⟩
       refine ⟨_,rfl,?_⟩
       replace HB := bsA hb
       clear hb
       refine hK.out _ _ (ew3 HB.out HW362) (fun hHeld => ?_)
       clear hK K
       refine nw 18 ?_
       refine pV_ 7 19 (bm 8 255) HT_.out ?_
       refine done_ (done_of HT_.out (by kernel_rfl)) ?_
       have p364 : 0 ≤ (x5_1 : Int) := od
       have q364 : x5_1 < (l0.length : Int) := od
       obtain ⟨ad364,e364,hx364_0,hx364_1,hx364_2⟩ := ea3 HB.out (at_T84 HR0.out x5_1 p364 q364)
       obtain rfl : ad362 = ad364 := (by injection e364)
       replace p364 := eq_true p364
       replace q364 := eq_true q364
       try go_wp2
       go_ret
       exact ⟨by first | rfl | (simp only [i64_w,i32_w] <;> rfl) | (simp [errW_none,errW_some] <;> rfl) | (simp [*,errW_none,errW_some] <;> rfl),bA⟩
     ·rw [if_neg c6] at H
      have c6b0 : (((rd_T84 l0 x5_1).f0).toList == t363.toList) = false := beq_eq_false_iff_ne.mpr c6
      have c6b1 : (((rd_T84 l0 x5_1).f0).toList != t363.toList) = true := bne_iff_ne.mpr c6
      obtain rfl := Option.some.inj H
      try go_wp2
      replace HB := Aside0.mk (below_drew1 HB.out)
      have p362 : 0 ≤ (x5_1 : Int) := od
      have q362 : x5_1 < (l0.length : Int) := od
      obtain ⟨ad362,e362,HW362⟩ := at_T84 HR0.out x5_1 p362 q362
      cases e362
      obtain ⟨hx362_0,hx362_1,hx362_2⟩ := ew3 HB.out HW362
      replace p362 := eq_true p362
      replace q362 := eq_true q362
      refine start_ (n:=8) (S:=fun w' => w'.cell? (ad362.add ((x5_1).toNat * 3)) = some (.string ((rd_T84 l0 x5_1).f0)) ∧ w'.cell? ⟨(ad362.add ((x5_1).toNat * 3)).block,(ad362.add ((x5_1).toNat * 3)).off + 1,none⟩ = some (.int .i64 ((rd_T84 l0 x5_1).f1)) ∧ w'.cell? ⟨(ad362.add ((x5_1).toNat * 3)).block,(ad362.add ((x5_1).toNat * 3)).off + 2,none⟩ = some (.string ((rd_T84 l0 x5_1).f2))) (ds := []) (bm 8 0) (by kernel_rfl) rfl rfl (ew3 HB.out HW362) (fun hHeld => ?_); refine with_tabW laws_heldObjectS.tab4 laws_heldObjectS.bits4 (fun HT_ HW_ => ?_)
      generalize wr.drew = w20 at HB hx362_0 hx362_1 hx362_2 hHeld ⊢
      refine pV_ 0 12 (bm 8 1) HT_.out ?_
      refine pV_ 1 13 (bm 8 3) HT_.out ?_
      refine pV_ 2 14 (bm 8 7) HT_.out ?_
      refine pV_ 3 15 (bm 8 15) HT_.out ?_
      refine pV_ 5 17 (bm 8 47) HT_.out ?_
      refine tk 4 16 (bm 8 63) HT_.out HW_.out hHeld ?_
      refine one_ (i:=6) (N:=some 18) (bm 8 127) rfl rfl (one_of HT_.out (by kernel_rfl)) (by decide) (fun K hK => ?_)
      refine goes_ Try.func41 (by kernel_rfl) rfl #[.int .i64 x1_1] (by rfl) rfl rfl mA ?_
      with_reducible refine (laws_markText.calls k1 x1_1 t363 _ A5.out).mono ?_
      rintro e w21 ⟨rfl,hb⟩
      refine ⟨_,rfl,?_⟩
      replace HB := bsA hb
      clear hb
      refine hK.out _ _ (ew3 HB.out HW362) (fun hHeld => ?_)
      clear hK K
      refine nw 18 ?_
      refine pV_ 7 19 (bm 8 255) HT_.out ?_
      refine done_ (done_of HT_.out (by kernel_rfl)) ?_
      try go_wp2
      go_ret
      exact ⟨by first | rfl | (simp only [i64_w,i32_w] <;> rfl) | (simp [errW_none,errW_some] <;> rfl) | (simp [*,errW_none,errW_some] <;> rfl),bA⟩
    ·rw [if_neg c4] at H
     exact absurd H (by simp)
   ·rw [if_neg c3] at H
    have c3b0 : decide (x5_1 < (l0.length : Int)) = false := decide_eq_false c3
    clear c3
    obtain rfl := Option.some.inj H
    go_wp2
    go_ret
    exact ⟨by first | rfl | (simp only [i64_w,i32_w] <;> rfl) | (simp [errW_none,errW_some] <;> rfl) | (simp [*,errW_none,errW_some] <;> rfl),bA⟩

/-! ### laws_heldStore: function 24 -/
def laws_heldStore.f (k : Nat) (l0_0 : List (S84)) (a0_1 : Int) (a1 : Int) : Option (Int) := (laws_heldObjectS.f k l0_0 a1).bind fun t368 => (if t368 < 0 then (some (-1)) else (some t368))
theorem laws_heldStore.mono : ∀ a0 a1 a2 k,LeO (laws_heldStore.f k a0 a1 a2) (laws_heldStore.f (k + 1) a0 a1 a2) := by
 intro a0 a1 a2 k
 unfold laws_heldStore.f
 repeat' first
 | (with_reducible first | exact laws_heldObjectS.mono .. | exact LeO.refl _ | exact LeO.none _ | refine LeO.ite ?_ ?_ | refine LeO.bind ?_ (fun _ => ?_))
 | exact LeO.none _ | refine LeO.ite ?_ ?_ | refine LeO.bind ?_ (fun _ => ?_)
set_option maxHeartbeats 8000000 in
set_option maxRecDepth 100000 in
theorem laws_heldStore.calls (k : Nat) (A0_0 : Option Addr) (c0_0 : Nat) (l0_0 : List (S84)) (a0_1 : Int) (a1 : Int) (r : Int) (w : World) (hr0_0 : Kd.C k84 w A0_0 l0_0.length l0_0) (hc0_0 : l0_0.length ≤ c0_0) (h : laws_heldStore.f k l0_0 a0_1 a1 = some r) :
  Calls Try.prog 24 #[.agg #[.slice A0_0 l0_0.length c0_0,.int .i64 a0_1],.int .i64 a1] w fun e w' => e = .returned (.int .i64 r) ∧ Below w.heap.size w w' := by
 have hu24 := Try.underlying24
 have HR0_0 := Aside0.mk hr0_0
 have HC0_0 := Aside0.mk hc0_0
 clear hr0_0 hc0_0
 have HB := Aside0.mk (Below.refl w.heap.size w)
 have H : ((laws_heldObjectS.f k l0_0 a1).bind fun t368 => (if t368 < 0 then (some (-1)) else (some t368))) = some r := h
 clear h
 replace H := Option.bind_eq_some_iff.mp H
 obtain ⟨t368,A30,H⟩ := H
 try dsimp only at H
 have A3 := Aside0.mk A30
 clear A30
 by_cases c4 : t368 < 0
 ·rw [if_pos c4] at H
  have c4b0 : decide (t368 < 0) = true := decide_eq_true c4
  clear c4
  obtain rfl := Option.some.inj H
  go_enter Try.func24,Try.ntmps24
  go_wp2_with (first | ((with_reducible refine gate_dst (N:=2) rfl ?_); refine bxe (N:=2) (cs := #[.slice A0_0 l0_0.length c0_0,.int .i64 a0_1]) (t:=24) ?_; intro gb367 hg w5 hbox hb; have BK367 := Aside0.mk (hbox); have GW367 := Aside0.mk ((gw hg : w.heap.size ≤ gb367)); have GE367 := GW367; replace HB := bsA hb; clear hb hbox hg; obtain ⟨hcz6_0,hcz6_1⟩ := cl2 BK367.out; obtain ⟨hfz6_0,hfz6_1⟩ := fz2 BK367.out) | ((with_reducible refine gate_callee (f:=43) rfl ?_); refine goesL_ (some 8) rfl rfl Try.func43 (by kernel_rfl) rfl #[.slice A0_0 l0_0.length c0_0,.int .i64 a1] rfl mA ?_; (with_reducible refine (laws_heldObjectS.calls k _ _ l0_0 a1 t368 _ ?side1 ?side2 A3.out).mono ?_); (case side1 => exact sC HR0_0.out); (case side2 => exact HC0_0.out); rintro e w7 ⟨rfl,hb⟩; refine ⟨_,rfl,?_⟩; replace BK367 := bbA BK367 hb; replace HB := bsA hb; clear hb))
  go_ret
  exact ⟨by first | rfl | (simp [errW_none,errW_some] <;> rfl) | (simp [*,errW_none,errW_some] <;> rfl),bA⟩
 ·rw [if_neg c4] at H
  have c4b0 : decide (t368 < 0) = false := decide_eq_false c4
  clear c4
  obtain rfl := Option.some.inj H
  go_enter Try.func24,Try.ntmps24
  go_wp2_with (first | ((with_reducible refine gate_dst (N:=2) rfl ?_); refine bxe (N:=2) (cs := #[.slice A0_0 l0_0.length c0_0,.int .i64 a0_1]) (t:=24) ?_; intro gb367 hg w8 hbox hb; have BK367 := Aside0.mk (hbox); have GW367 := Aside0.mk ((gw hg : w.heap.size ≤ gb367)); have GE367 := GW367; replace HB := bsA hb; clear hb hbox hg; obtain ⟨hcz9_0,hcz9_1⟩ := cl2 BK367.out; obtain ⟨hfz9_0,hfz9_1⟩ := fz2 BK367.out) | ((with_reducible refine gate_callee (f:=43) rfl ?_); refine goesL_ (some 8) rfl rfl Try.func43 (by kernel_rfl) rfl #[.slice A0_0 l0_0.length c0_0,.int .i64 a1] rfl mA ?_; (with_reducible refine (laws_heldObjectS.calls k _ _ l0_0 a1 t368 _ ?side1 ?side2 A3.out).mono ?_); (case side1 => exact sC HR0_0.out); (case side2 => exact HC0_0.out); rintro e w10 ⟨rfl,hb⟩; refine ⟨_,rfl,?_⟩; replace BK367 := bbA BK367 hb; replace HB := bsA hb; clear hb))
  go_ret
  exact ⟨by first | rfl | (simp [errW_none,errW_some] <;> rfl) | (simp [*,errW_none,errW_some] <;> rfl),bA⟩

end Go.Proofs.Ytmfichcgmofpkaa.XFnExactNewFleet
