-- Printed by this session's own program wip/tools/xprint.py, which widens the kit's print. Not trusted: Lean checks it.
import Derived.Test.YtleifhnoaaphmaaGreatDoorXFnExactWindowOfx0
import Derived.Test.YtleifhnoaaphmaaGreatDoorXFnExactWindowOfx12
import Derived.Test.YtleifhnoaaphmaaGreatDoorXFnExactWindowOfx14
namespace Go.Proofs.YtleifhnoaaphmaaGreatDoor.XFnExactWindowOf
open List (setIfInBounds_toArray set_cons_zero set_cons_succ)
open Go.RowKit Go.Proofs.YtleifhnoaaphmaaGreatDoorW.PrintWords Go.Proofs.YtleifhnoaaphmaaGreatDoorW.PrintLast Go.Proofs.YtleifhnoaaphmaaGreatDoorW.PrintMore
attribute [local go_sem] max2_int min2_int max_two min_two max_three min_three max_four min_four   -- for this text's walks alone
set_option linter.unusedVariables false
set_option linter.unusedSimpArgs false

/-! ### impl_BucketsOK: function 56 -/
mutual
def impl_BucketsOK.l0 : Nat → List (S75) → List (S75) → Int → Int → Option (Bool)
 | 0,_,_,_,_ => none
 | k + 1,x0,x5,x6,x7 => if x7 < x6 then (if 0 ≤ x7 then (if x7 < (x5.length : Int) then (if x7 = 8 then (impl_BucketsOK.j1 k x0 x5 x6 x7 true) else ((impl_isMoment.f ((rd_T75 x5 x7).f0)).bind fun t451 => (if t451 = true then ((impl_AggOK.f ((rd_T75 x5 x7).f1.f0) ((rd_T75 x5 x7).f1.f1) ((rd_T75 x5 x7).f1.f2) ((rd_T75 x5 x7).f1.f3) ((rd_T75 x5 x7).f1.f4) ((rd_T75 x5 x7).f1.f5)).bind fun t452 => (if t452 = true then (if ((rd_T75 x5 x7).f1.f0) = 0 then (impl_BucketsOK.j1 k x0 x5 x6 x7 true) else (if x7 > 0 then (if 0 ≤ (wrap64 (x7 - 1)) then (if (wrap64 (x7 - 1)) < (x0.length : Int) then (impl_BucketsOK.j1 k x0 x5 x6 x7 (decide (((rd_T75 x5 x7).f0) ≤ ((rd_T75 x0 (wrap64 (x7 - 1))).f0)))) else (none)) else (none)) else (impl_BucketsOK.j1 k x0 x5 x6 x7 false))) else (impl_BucketsOK.j1 k x0 x5 x6 x7 true))) else (impl_BucketsOK.j1 k x0 x5 x6 x7 true)))) else (none)) else (none)) else (some true)
def impl_BucketsOK.j1 : Nat → List (S75) → List (S75) → Int → Int → Bool → Option (Bool)
 | 0,_,_,_,_,_ => none
 | k + 1,x0,x5,x6,x7,x46 => if x46 = true then (some false) else (impl_BucketsOK.l0 k x0 x5 x6 (wrap64 (x7 + 1)))
end
def impl_BucketsOK.f (k : Nat) (l0 : List (S75)) : Option (Bool) := impl_BucketsOK.l0 k l0 l0 (l0.length : Int) 0
theorem impl_BucketsOK.mono_l : ∀ k,(∀ y0 y1 y2 y3,LeO (impl_BucketsOK.l0 k y0 y1 y2 y3) (impl_BucketsOK.l0 (k + 1) y0 y1 y2 y3)) ∧ (∀ y0 y1 y2 y3 y4,LeO (impl_BucketsOK.j1 k y0 y1 y2 y3 y4) (impl_BucketsOK.j1 (k + 1) y0 y1 y2 y3 y4))
 | 0 => ⟨fun _ _ _ _ r h => by simp [impl_BucketsOK.l0] at h,fun _ _ _ _ _ r h => by simp [impl_BucketsOK.j1] at h⟩
 | k + 1 => by
  obtain ⟨ih0,ih1⟩ := impl_BucketsOK.mono_l k
  refine ⟨?_,?_⟩
  ·intro y0 y1 y2 y3
   unfold impl_BucketsOK.l0
   repeat' first
   | (with_reducible exact ih0 _ _ _ _)
   | (with_reducible exact ih1 _ _ _ _ _)
   | (with_reducible exact LeO.refl _)
   | (with_reducible exact LeO.none _)
   | (with_reducible refine LeO.ite ?_ ?_)
   | (with_reducible refine LeO.bind ?_ (fun _ => ?_))
   | exact ih0 _ _ _ _
   | exact ih1 _ _ _ _ _
   | exact LeO.none _
   | refine LeO.ite ?_ ?_
   | refine LeO.bind ?_ (fun _ => ?_)
  ·intro y0 y1 y2 y3 y4
   unfold impl_BucketsOK.j1
   repeat' first
   | (with_reducible exact ih0 _ _ _ _)
   | (with_reducible exact ih1 _ _ _ _ _)
   | (with_reducible exact LeO.refl _)
   | (with_reducible exact LeO.none _)
   | (with_reducible refine LeO.ite ?_ ?_)
   | (with_reducible refine LeO.bind ?_ (fun _ => ?_))
   | exact ih0 _ _ _ _
   | exact ih1 _ _ _ _ _
   | exact LeO.none _
   | refine LeO.ite ?_ ?_
   | refine LeO.bind ?_ (fun _ => ?_)
theorem impl_BucketsOK.mono : ∀ a0 k,LeO (impl_BucketsOK.f k a0) (impl_BucketsOK.f (k + 1) a0) := by
 intro a0 k
 obtain ⟨ih0,ih1⟩ := impl_BucketsOK.mono_l k
 unfold impl_BucketsOK.f
 repeat' first
   | (with_reducible exact ih0 _ _ _ _)
   | (with_reducible exact ih1 _ _ _ _ _)
   | (with_reducible exact LeO.refl _)
   | (with_reducible exact LeO.none _)
   | (with_reducible refine LeO.ite ?_ ?_)
   | (with_reducible refine LeO.bind ?_ (fun _ => ?_))
   | exact ih0 _ _ _ _
   | exact ih1 _ _ _ _ _
   | exact LeO.none _
   | refine LeO.ite ?_ ?_
   | refine LeO.bind ?_ (fun _ => ?_)
def impl_BucketsOK.T4 : Bool × List (List Nat × List Nat) := (true,[([],[]),([0],[0]),([1],[1]),([2],[2]),([3,2],[2,3]),([4,2,2],[2,4]),([5,2],[2,5]),([2,6],[2,6]),([7,5],[7]),([8],[8]),([9,8],[8,9]),([10,8,8],[8,10]),([11,8],[8,11]),([8,12],[8,12]),([13,11],[13]),([14],[14]),([15,14],[14,15]),([16,14],[14,16]),([17,14],[14,17]),([14,18],[14,18]),([19,14],[19]),([20],[20]),([21,20],[20,21]),([22,20,20],[20,22]),([23],[23]),([24,23],[23,24]),([23],[23]),([23],[23]),([27,23],[23,27]),([26,28,23],[23,26,28]),([29,23],[23,29]),([30,23],[23,30]),([25,31,23],[23,25,31]),([23,32,20],[20,23,32]),([20,33],[20,33])])
def impl_BucketsOK.B4 : List Nat := [0,1,3,7,15,31,63,127,255,511,1023,2047,4095,8191,16383,32767,65535,131071,262143,524287,1048575,2097151,4194303,8388607,16777215,33554431,16777215,16777215,150994943,486539263,1023410175,2097151999,4294967295,8589934591,17179869183]
theorem impl_BucketsOK.tab4 : rtab .any (opsOf Tryz.f56 4) = impl_BucketsOK.T4 := by kernel_rfl
theorem impl_BucketsOK.bits4 : waitsOk impl_BucketsOK.T4.2 impl_BucketsOK.B4 = true := by kernel_rfl
set_option maxHeartbeats 8000000 in
set_option maxRecDepth 100000 in
theorem impl_BucketsOK.calls (k : Nat) (A0 : Option Addr) (c0 : Nat) (l0 : List (S75)) (r : Bool) (w : World) (hr0 : Kd.C k75 w A0 l0.length l0) (hc0 : l0.length ≤ c0) (h : impl_BucketsOK.f k l0 = some r) :
  Calls Tryz.prog 56 #[.slice A0 l0.length c0] w fun e w' => e = .returned (.bool r) ∧ Below w.heap.size w w' := by
 have hu75 := Tryz.underlying75
 have hu26 := Tryz.underlying26
 have HR0 := Aside0.mk hr0
 have HC0 := Aside0.mk hc0
 clear hr0 hc0
 have HB := Aside0.mk (Below.refl w.heap.size w)
 have H : (impl_BucketsOK.l0 k l0 l0 (l0.length : Int) 0) = some r := h
 clear h
 have H' := Aside0.mk H
 clear H
 go_enter Tryz.func56,Tryz.ntmps56
 go_wp2
 go_loopg [7] k (fun kq v7 w' => ∃ (x7_1 : Int),v7 = .int .i64 x7_1 ∧ Aside0 (impl_BucketsOK.l0 kq l0 l0 (l0.length : Int) x7_1 = some r) ∧ Aside0 (kq ≤ k) ∧ Aside0 (Below w.heap.size w w'))
 case atStart => exact ⟨(0),(by first | rfl | (simp; done) | (simp [*]; done)),H',⟨Nat.le_refl _⟩,⟨bA⟩⟩
 case round =>
  clear H'
  obtain ⟨x7_1,rfl,HA,HK1,HB⟩ := hrel
  cases gk with
  | zero => exact absurd HA.out (by simp [impl_BucketsOK.l0])
  | succ k1 =>
   have H := HA.out
   clear HA
   simp only [impl_BucketsOK.l0] at H
   by_cases c2 : x7_1 < (l0.length : Int)
   ·rw [if_pos c2] at H
    have c2b0 : decide (x7_1 < (l0.length : Int)) = true := decide_eq_true c2
    clear c2
    by_cases c3 : 0 ≤ x7_1
    ·rw [if_pos c3] at H
     have c3b0 : decide (0 ≤ x7_1) = true := decide_eq_true c3
     clear c3
     by_cases c4 : x7_1 < (l0.length : Int)
     ·rw [if_pos c4] at H
      have c4b0 : decide (x7_1 < (l0.length : Int)) = true := decide_eq_true c4
      clear c4
      have HC5 := Aside0.mk H
      clear H
      have p449 : 0 ≤ (x7_1 : Int) := od
      have q449 : x7_1 < (l0.length : Int) := od
      obtain ⟨ad449,e449,hx449_0,hx449_1,hx449_2,hx449_3,hx449_4,hx449_5,hx449_6⟩ := at_T75 HR0.out x7_1 p449 q449
      cases e449
      replace hx449_0 := cb HB.out hx449_0
      replace hx449_1 := cb HB.out hx449_1
      replace hx449_2 := cb HB.out hx449_2
      replace hx449_3 := cb HB.out hx449_3
      replace hx449_4 := cb HB.out hx449_4
      replace hx449_5 := cb HB.out hx449_5
      replace hx449_6 := cb HB.out hx449_6
      replace p449 := eq_true p449
      replace q449 := eq_true q449
      go_upto_region 4 with (first | ((with_reducible refine gate_dst (N:=4) rfl ?_); refine box_event ?hg (N:=4) ?hd (cs := #[.int .i64 0,.int .i64 0,.int .i64 0,.int .i64 0,.int .i64 0,.int .i64 0,.int .i64 0]) (t:=75) ?hr ?_; (case hd => rfl); (case hg => rfl); (case hr => first | (go_simp; done) | (go_simp; rfl)); intro gb450 hg w6 hbox hb; have n0_ := Aside0.mk (below_step bA hb); have n1_ := Aside0.mk (hbox); have n2_ := Aside0.mk ((gw hg : w.heap.size ≤ gb450)); have n3_ := Aside0.mk ((gw hg : w.heap.size ≤ gb450)); clear HB; have HB := n0_; have BK450 := n1_; have GW450 := n2_; have GE450 := n3_; clear n0_ n1_ n2_ n3_; clear hb hbox hg; have hcz7_0 : w6.cell? ⟨gb450,0,none⟩ = some (.int .i64 0) := (blk_cell BK450.out 0).trans rfl; have hcz7_1 : w6.cell? ⟨gb450,1,none⟩ = some (.int .i64 0) := (blk_cell BK450.out 1).trans rfl; have hcz7_2 : w6.cell? ⟨gb450,2,none⟩ = some (.int .i64 0) := (blk_cell BK450.out 2).trans rfl; have hcz7_3 : w6.cell? ⟨gb450,3,none⟩ = some (.int .i64 0) := (blk_cell BK450.out 3).trans rfl; have hcz7_4 : w6.cell? ⟨gb450,4,none⟩ = some (.int .i64 0) := (blk_cell BK450.out 4).trans rfl; have hcz7_5 : w6.cell? ⟨gb450,5,none⟩ = some (.int .i64 0) := (blk_cell BK450.out 5).trans rfl; have hcz7_6 : w6.cell? ⟨gb450,6,none⟩ = some (.int .i64 0) := (blk_cell BK450.out 6).trans rfl; have hfz7_0 := blk_frozen BK450.out 0; have hfz7_1 := blk_frozen BK450.out 1; have hfz7_2 := blk_frozen BK450.out 2; have hfz7_3 := blk_frozen BK450.out 3; have hfz7_4 := blk_frozen BK450.out 4; have hfz7_5 := blk_frozen BK450.out 5; have hfz7_6 := blk_frozen BK450.out 6))
      (try simp only [Act.put,setIfInBounds_toArray,set_cons_zero,set_cons_succ])
      go_cut [46] (fun v46 wc => ∃ (kq : Nat) (x46_4 : Bool),v46 = .bool x46_4 ∧ Aside0 (impl_BucketsOK.j1 kq l0 l0 (l0.length : Int) x7_1 x46_4 = some r) ∧ Aside0 (kq ≤ k1) ∧ Aside0 (wc.heap[gb450]? = some (.cells #[.int .i64 ((rd_T75 l0 x7_1).f0),.int .i64 ((rd_T75 l0 x7_1).f1.f0),.int .i64 ((rd_T75 l0 x7_1).f1.f1),.int .i64 ((rd_T75 l0 x7_1).f1.f2),.int .i64 ((rd_T75 l0 x7_1).f1.f3),.int .i64 ((rd_T75 l0 x7_1).f1.f4),.int .i64 ((rd_T75 l0 x7_1).f1.f5)] 75 (0,0))) ∧ Aside0 (Below w.heap.size w wc))
      case first =>
       have H := HC5.out
       clear HC5
       by_cases c8 : x7_1 = 8
       ·rw [if_pos c8] at H
        have c8b0 : (x7_1 == 8) = true := beq_iff_eq.mpr c8
        have c8b1 : (x7_1 != 8) = false := bne_eq_false_iff_eq.mpr c8
        clear c8
        (first | rw [c8b0] | (simp only [i64_w,i32_w]; rw [c8b0]) | skip)
        have H' := Aside0.mk H
        clear H
        try go_wp2
        have n0_ : Aside0 ((((((((w6.setCell ⟨gb450,0,none⟩ (.int .i64 ((rd_T75 l0 x7_1).f0))).setCell ⟨gb450,1,none⟩ (.int .i64 ((rd_T75 l0 x7_1).f1.f0))).setCell ⟨gb450,2,none⟩ (.int .i64 ((rd_T75 l0 x7_1).f1.f1))).setCell ⟨gb450,3,none⟩ (.int .i64 ((rd_T75 l0 x7_1).f1.f2))).setCell ⟨gb450,4,none⟩ (.int .i64 ((rd_T75 l0 x7_1).f1.f3))).setCell ⟨gb450,5,none⟩ (.int .i64 ((rd_T75 l0 x7_1).f1.f4))).setCell ⟨gb450,6,none⟩ (.int .i64 ((rd_T75 l0 x7_1).f1.f5))).heap[gb450]? = some (.cells #[.int .i64 ((rd_T75 l0 x7_1).f0),.int .i64 ((rd_T75 l0 x7_1).f1.f0),.int .i64 ((rd_T75 l0 x7_1).f1.f1),.int .i64 ((rd_T75 l0 x7_1).f1.f2),.int .i64 ((rd_T75 l0 x7_1).f1.f3),.int .i64 ((rd_T75 l0 x7_1).f1.f4),.int .i64 ((rd_T75 l0 x7_1).f1.f5)] 75 (0,0))) := ⟨by (with_reducible repeat (first | refine blk_drewN ?_ _ | refine blk_drew ?_ | refine blk_alloc ?_ _)); apply blkp7; (with_reducible repeat (first | refine blk_drewN ?_ _ | refine blk_drew ?_ | refine blk_alloc ?_ _)); exact BK450.out⟩
        have n1_ : Aside0 (Below w.heap.size w (((((((w6.setCell ⟨gb450,0,none⟩ (.int .i64 ((rd_T75 l0 x7_1).f0))).setCell ⟨gb450,1,none⟩ (.int .i64 ((rd_T75 l0 x7_1).f1.f0))).setCell ⟨gb450,2,none⟩ (.int .i64 ((rd_T75 l0 x7_1).f1.f1))).setCell ⟨gb450,3,none⟩ (.int .i64 ((rd_T75 l0 x7_1).f1.f2))).setCell ⟨gb450,4,none⟩ (.int .i64 ((rd_T75 l0 x7_1).f1.f3))).setCell ⟨gb450,5,none⟩ (.int .i64 ((rd_T75 l0 x7_1).f1.f4))).setCell ⟨gb450,6,none⟩ (.int .i64 ((rd_T75 l0 x7_1).f1.f5)))) := ⟨bA⟩
        (try clear BK450)
        (try clear HB)
        generalize (((((((w6.setCell ⟨gb450,0,none⟩ (.int .i64 ((rd_T75 l0 x7_1).f0))).setCell ⟨gb450,1,none⟩ (.int .i64 ((rd_T75 l0 x7_1).f1.f0))).setCell ⟨gb450,2,none⟩ (.int .i64 ((rd_T75 l0 x7_1).f1.f1))).setCell ⟨gb450,3,none⟩ (.int .i64 ((rd_T75 l0 x7_1).f1.f2))).setCell ⟨gb450,4,none⟩ (.int .i64 ((rd_T75 l0 x7_1).f1.f3))).setCell ⟨gb450,5,none⟩ (.int .i64 ((rd_T75 l0 x7_1).f1.f4))).setCell ⟨gb450,6,none⟩ (.int .i64 ((rd_T75 l0 x7_1).f1.f5))) = w9 at n0_ n1_ ⊢
        have BK450 := n0_
        have HB := n1_
        clear n0_ n1_
        have n0_ := Aside0.mk (blk_drew BK450.out)
        have n1_ := Aside0.mk (below_drew1 HB.out)
        clear BK450
        clear HB
        have BK450 := n0_
        have HB := n1_
        clear n0_ n1_
        refine start_ (n:=35) (S:=fun w' => True) (ds := []) (bm 35 0) (by kernel_rfl) rfl rfl trivial (fun hHeld => ?_); refine with_tabW impl_BucketsOK.tab4 impl_BucketsOK.bits4 (fun HT_ HW_ => ?_)
        generalize w9.drew = w10 at BK450 HB hHeld ⊢
        refine pV_ 0 12 (bm 35 1) HT_.out ?_
        refine pV_ 1 13 (bm 35 3) HT_.out ?_
        refine pV_ 2 14 (bm 35 7) HT_.out ?_
        refine pU_ 3 15 (bm 35 15) HT_.out ?_
        refine pU_ 4 16 (bm 35 31) HT_.out ?_
        refine pU_ 5 17 (bm 35 63) HT_.out ?_
        refine pU_ 6 18 (bm 35 127) HT_.out ?_
        refine pV_ 7 19 (bm 35 255) HT_.out ?_
        refine pV_ 8 20 (bm 35 511) HT_.out ?_
        refine pU_ 9 21 (bm 35 1023) HT_.out ?_
        refine pU_ 10 22 (bm 35 2047) HT_.out ?_
        refine pU_ 11 23 (bm 35 4095) HT_.out ?_
        refine pU_ 12 24 (bm 35 8191) HT_.out ?_
        refine pV_ 13 25 (bm 35 16383) HT_.out ?_
        refine pV_ 14 26 (bm 35 32767) HT_.out ?_
        refine pU_ 15 27 (bm 35 65535) HT_.out ?_
        refine pU_ 16 28 (bm 35 131071) HT_.out ?_
        refine pU_ 17 29 (bm 35 262143) HT_.out ?_
        refine pU_ 18 30 (bm 35 524287) HT_.out ?_
        refine pV_ 19 31 (bm 35 1048575) HT_.out ?_
        refine pV_ 20 32 (bm 35 2097151) HT_.out ?_
        refine pU_ 21 33 (bm 35 4194303) HT_.out ?_
        refine pU_ 22 34 (bm 35 8388607) HT_.out ?_
        refine pU_ 23 35 (bm 35 16777215) HT_.out ?_
        refine pU_ 24 36 (bm 35 33554431) HT_.out ?_
        refine pU_ 25 37 (bm 35 67108863) HT_.out ?_
        refine pU_ 26 38 (bm 35 134217727) HT_.out ?_
        refine pU_ 27 39 (bm 35 268435455) HT_.out ?_
        refine pU_ 28 40 (bm 35 536870911) HT_.out ?_
        refine pU_ 29 41 (bm 35 1073741823) HT_.out ?_
        refine pU_ 30 42 (bm 35 2147483647) HT_.out ?_
        refine pU_ 31 43 (bm 35 4294967295) HT_.out ?_
        refine pU_ 32 44 (bm 35 8589934591) HT_.out ?_
        refine pU_ 33 45 (bm 35 17179869183) HT_.out ?_
        refine pV_ 34 46 (bm 35 34359738367) HT_.out ?_
        refine done_ (done_of HT_.out (by kernel_rfl)) ?_
        try go_wp2
        go_meet
        case rel => exact ⟨_,(true),(by first | rfl | (simp; done) | (simp [*]; done)),H',⟨by have := HK1.out; first | omega | exact Nat.le_refl _⟩,⟨kA BK450.out⟩,⟨bA⟩⟩
       ·rw [if_neg c8] at H
        have c8b0 : (x7_1 == 8) = false := beq_eq_false_iff_ne.mpr c8
        have c8b1 : (x7_1 != 8) = true := bne_iff_ne.mpr c8
        (first | rw [c8b0] | (simp only [i64_w,i32_w]; rw [c8b0]) | skip)
        replace H := Option.bind_eq_some_iff.mp H
        obtain ⟨t451,A110,H⟩ := H
        try dsimp only at H
        have A11 := Aside0.mk A110
        clear A110
        by_cases c12 : t451 = true
        ·subst c12
         rw [if_pos rfl] at H
         replace H := Option.bind_eq_some_iff.mp H
         obtain ⟨t452,A130,H⟩ := H
         try dsimp only at H
         have A13 := Aside0.mk A130
         clear A130
         by_cases c14 : t452 = true
         ·subst c14
          rw [if_pos rfl] at H
          by_cases c15 : ((rd_T75 l0 x7_1).f1.f0) = 0
          ·rw [if_pos c15] at H
           have c15b0 : (((rd_T75 l0 x7_1).f1.f0) == 0) = true := beq_iff_eq.mpr c15
           have c15b1 : (((rd_T75 l0 x7_1).f1.f0) != 0) = false := bne_eq_false_iff_eq.mpr c15
           clear c15
           have H' := Aside0.mk H
           clear H
           try go_wp2
           have n0_ : Aside0 ((((((((w6.setCell ⟨gb450,0,none⟩ (.int .i64 ((rd_T75 l0 x7_1).f0))).setCell ⟨gb450,1,none⟩ (.int .i64 ((rd_T75 l0 x7_1).f1.f0))).setCell ⟨gb450,2,none⟩ (.int .i64 ((rd_T75 l0 x7_1).f1.f1))).setCell ⟨gb450,3,none⟩ (.int .i64 ((rd_T75 l0 x7_1).f1.f2))).setCell ⟨gb450,4,none⟩ (.int .i64 ((rd_T75 l0 x7_1).f1.f3))).setCell ⟨gb450,5,none⟩ (.int .i64 ((rd_T75 l0 x7_1).f1.f4))).setCell ⟨gb450,6,none⟩ (.int .i64 ((rd_T75 l0 x7_1).f1.f5))).heap[gb450]? = some (.cells #[.int .i64 ((rd_T75 l0 x7_1).f0),.int .i64 ((rd_T75 l0 x7_1).f1.f0),.int .i64 ((rd_T75 l0 x7_1).f1.f1),.int .i64 ((rd_T75 l0 x7_1).f1.f2),.int .i64 ((rd_T75 l0 x7_1).f1.f3),.int .i64 ((rd_T75 l0 x7_1).f1.f4),.int .i64 ((rd_T75 l0 x7_1).f1.f5)] 75 (0,0))) := ⟨by (with_reducible repeat (first | refine blk_drewN ?_ _ | refine blk_drew ?_ | refine blk_alloc ?_ _)); apply blkp7; (with_reducible repeat (first | refine blk_drewN ?_ _ | refine blk_drew ?_ | refine blk_alloc ?_ _)); exact BK450.out⟩
           have n1_ : Aside0 (Below w.heap.size w (((((((w6.setCell ⟨gb450,0,none⟩ (.int .i64 ((rd_T75 l0 x7_1).f0))).setCell ⟨gb450,1,none⟩ (.int .i64 ((rd_T75 l0 x7_1).f1.f0))).setCell ⟨gb450,2,none⟩ (.int .i64 ((rd_T75 l0 x7_1).f1.f1))).setCell ⟨gb450,3,none⟩ (.int .i64 ((rd_T75 l0 x7_1).f1.f2))).setCell ⟨gb450,4,none⟩ (.int .i64 ((rd_T75 l0 x7_1).f1.f3))).setCell ⟨gb450,5,none⟩ (.int .i64 ((rd_T75 l0 x7_1).f1.f4))).setCell ⟨gb450,6,none⟩ (.int .i64 ((rd_T75 l0 x7_1).f1.f5)))) := ⟨bA⟩
           (try clear BK450)
           (try clear HB)
           generalize (((((((w6.setCell ⟨gb450,0,none⟩ (.int .i64 ((rd_T75 l0 x7_1).f0))).setCell ⟨gb450,1,none⟩ (.int .i64 ((rd_T75 l0 x7_1).f1.f0))).setCell ⟨gb450,2,none⟩ (.int .i64 ((rd_T75 l0 x7_1).f1.f1))).setCell ⟨gb450,3,none⟩ (.int .i64 ((rd_T75 l0 x7_1).f1.f2))).setCell ⟨gb450,4,none⟩ (.int .i64 ((rd_T75 l0 x7_1).f1.f3))).setCell ⟨gb450,5,none⟩ (.int .i64 ((rd_T75 l0 x7_1).f1.f4))).setCell ⟨gb450,6,none⟩ (.int .i64 ((rd_T75 l0 x7_1).f1.f5))) = w16 at n0_ n1_ ⊢
           have BK450 := n0_
           have HB := n1_
           clear n0_ n1_
           have n0_ := Aside0.mk (blk_drew BK450.out)
           have n1_ := Aside0.mk (below_drew1 HB.out)
           clear BK450
           clear HB
           have BK450 := n0_
           have HB := n1_
           clear n0_ n1_
           refine start_ (n:=35) (S:=fun w' => w'.cell? ⟨gb450,0,none⟩ = some (.int .i64 ((rd_T75 l0 x7_1).f0)) ∧ w'.cell? ⟨gb450,1,none⟩ = some (.int .i64 ((rd_T75 l0 x7_1).f1.f0)) ∧ w'.cell? ⟨gb450,2,none⟩ = some (.int .i64 ((rd_T75 l0 x7_1).f1.f1)) ∧ w'.cell? ⟨gb450,3,none⟩ = some (.int .i64 ((rd_T75 l0 x7_1).f1.f2)) ∧ w'.cell? ⟨gb450,4,none⟩ = some (.int .i64 ((rd_T75 l0 x7_1).f1.f3)) ∧ w'.cell? ⟨gb450,5,none⟩ = some (.int .i64 ((rd_T75 l0 x7_1).f1.f4)) ∧ w'.cell? ⟨gb450,6,none⟩ = some (.int .i64 ((rd_T75 l0 x7_1).f1.f5))) (ds := []) (bm 35 0) (by kernel_rfl) rfl rfl ⟨(blk_cell BK450.out 0).trans rfl,(blk_cell BK450.out 1).trans rfl,(blk_cell BK450.out 2).trans rfl,(blk_cell BK450.out 3).trans rfl,(blk_cell BK450.out 4).trans rfl,(blk_cell BK450.out 5).trans rfl,(blk_cell BK450.out 6).trans rfl⟩ (fun hHeld => ?_); refine with_tabW impl_BucketsOK.tab4 impl_BucketsOK.bits4 (fun HT_ HW_ => ?_)
           generalize w16.drew = w17 at BK450 HB hHeld ⊢
           refine pV_ 0 12 (bm 35 1) HT_.out ?_
           refine pV_ 1 13 (bm 35 3) HT_.out ?_
           refine pV_ 2 14 (bm 35 7) HT_.out ?_
           refine pV_ 3 15 (bm 35 15) HT_.out ?_
           refine take_ (i:=4) (N:=some 16) (v:=?_) (a':=?_) (bm 35 31) rfl rfl (take_ofW HT_.out HW_.out (by kernel_rfl)) (fun _ _ _ h => h) (Or.inl ⟨by rfl,?_⟩) hHeld ?_ ?_
           rotate_left
           ·rintro w' ⟨s0,s1,s2,s3,s4,s5,s6⟩
            go_simp
            with_reducible rfl
           rotate_left
           ·simp only [Act.put,setIfInBounds_toArray,set_cons_zero,set_cons_succ,i64_w,i32_w]
            rfl
           refine one_ (i:=5) (N:=some 17) (bm 35 63) rfl rfl (one_of HT_.out (by kernel_rfl)) (by decide) (fun K hK => ?_)
           refine goes_ Tryz.func70 (by kernel_rfl) rfl #[.int .i64 ((rd_T75 l0 x7_1).f0)] (by rfl) rfl rfl mA ?_
           with_reducible refine (impl_isMoment.calls ((rd_T75 l0 x7_1).f0) true _ A11.out).mono ?_
           rintro e w' ⟨rfl,⟨nd,rfl⟩⟩
           refine ⟨_,rfl,?_⟩
           refine hK.out _ _ ⟨(blk_cell BK450.out 0).trans rfl,(blk_cell BK450.out 1).trans rfl,(blk_cell BK450.out 2).trans rfl,(blk_cell BK450.out 3).trans rfl,(blk_cell BK450.out 4).trans rfl,(blk_cell BK450.out 5).trans rfl,(blk_cell BK450.out 6).trans rfl⟩ (fun hHeld => ?_)
           clear hK K
           refine norm_ (a':=?_) ?_ ?_
           rotate_left
           ·show Act.put _ (some 17) _ = _
            simp only [Act.put,setIfInBounds_toArray,set_cons_zero,set_cons_succ,i64_w,i32_w]
            rfl
           refine pV_ 6 18 (bm 35 127) HT_.out ?_
           refine pV_ 7 19 (bm 35 255) HT_.out ?_
           refine pV_ 8 20 (bm 35 511) HT_.out ?_
           refine pV_ 9 21 (bm 35 1023) HT_.out ?_
           refine take_ (i:=10) (N:=some 22) (v:=?_) (a':=?_) (bm 35 2047) rfl rfl (take_ofW HT_.out HW_.out (by kernel_rfl)) (fun _ _ _ h => h) (Or.inl ⟨by rfl,?_⟩) hHeld ?_ ?_
           rotate_left
           ·rintro w' ⟨s0,s1,s2,s3,s4,s5,s6⟩
            go_simp
            with_reducible rfl
           rotate_left
           ·simp only [Act.put,setIfInBounds_toArray,set_cons_zero,set_cons_succ,i64_w,i32_w]
            rfl
           refine one_ (i:=11) (N:=some 23) (bm 35 4095) rfl rfl (one_of HT_.out (by kernel_rfl)) (by decide) (fun K hK => ?_)
           refine goes_ Tryz.func74 (by kernel_rfl) rfl #[.agg #[.int .i64 ((rd_T75 l0 x7_1).f1.f0),.int .i64 ((rd_T75 l0 x7_1).f1.f1),.int .i64 ((rd_T75 l0 x7_1).f1.f2),.int .i64 ((rd_T75 l0 x7_1).f1.f3),.int .i64 ((rd_T75 l0 x7_1).f1.f4),.int .i64 ((rd_T75 l0 x7_1).f1.f5)]] (by rfl) rfl rfl mA ?_
           with_reducible refine (impl_AggOK.calls ((rd_T75 l0 x7_1).f1.f0) ((rd_T75 l0 x7_1).f1.f1) ((rd_T75 l0 x7_1).f1.f2) ((rd_T75 l0 x7_1).f1.f3) ((rd_T75 l0 x7_1).f1.f4) ((rd_T75 l0 x7_1).f1.f5) true _ A13.out).mono ?_
           rintro e w18 ⟨rfl,hb⟩
           refine ⟨_,rfl,?_⟩
           have n0_ := Aside0.mk (blk_below (g:=gb450) (o:=.cells #[.int .i64 ((rd_T75 l0 x7_1).f0),.int .i64 ((rd_T75 l0 x7_1).f1.f0),.int .i64 ((rd_T75 l0 x7_1).f1.f1),.int .i64 ((rd_T75 l0 x7_1).f1.f2),.int .i64 ((rd_T75 l0 x7_1).f1.f3),.int .i64 ((rd_T75 l0 x7_1).f1.f4),.int .i64 ((rd_T75 l0 x7_1).f1.f5)] 75 (0,0)) (kA BK450.out) hb)
           have n1_ := Aside0.mk (below_step bA hb)
           clear BK450
           clear HB
           have BK450 := n0_
           have HB := n1_
           clear n0_ n1_
           (try clear hb)
           (try clear hb2)
           (try clear hk)
           (try clear hi)
           refine hK.out _ _ ⟨(blk_cell BK450.out 0).trans rfl,(blk_cell BK450.out 1).trans rfl,(blk_cell BK450.out 2).trans rfl,(blk_cell BK450.out 3).trans rfl,(blk_cell BK450.out 4).trans rfl,(blk_cell BK450.out 5).trans rfl,(blk_cell BK450.out 6).trans rfl⟩ (fun hHeld => ?_)
           clear hK K
           refine norm_ (a':=?_) ?_ ?_
           rotate_left
           ·show Act.put _ (some 23) _ = _
            simp only [Act.put,setIfInBounds_toArray,set_cons_zero,set_cons_succ,i64_w,i32_w]
            rfl
           refine pV_ 12 24 (bm 35 8191) HT_.out ?_
           refine pV_ 13 25 (bm 35 16383) HT_.out ?_
           refine pV_ 14 26 (bm 35 32767) HT_.out ?_
           refine pV_ 15 27 (bm 35 65535) HT_.out ?_
           refine pV_ 16 28 (bm 35 131071) HT_.out ?_
           refine take_ (i:=17) (N:=some 29) (v:=?_) (a':=?_) (bm 35 262143) rfl rfl (take_ofW HT_.out HW_.out (by kernel_rfl)) (fun _ _ _ h => h) (Or.inl ⟨by rfl,?_⟩) hHeld ?_ ?_
           rotate_left
           ·rintro w' ⟨s0,s1,s2,s3,s4,s5,s6⟩
            go_simp
            with_reducible rfl
           rotate_left
           ·simp only [Act.put,setIfInBounds_toArray,set_cons_zero,set_cons_succ,i64_w,i32_w]
            rfl
           refine pV_ 18 30 (bm 35 524287) HT_.out ?_
           refine pV_ 19 31 (bm 35 1048575) HT_.out ?_
           refine pV_ 20 32 (bm 35 2097151) HT_.out ?_
           refine pU_ 21 33 (bm 35 4194303) HT_.out ?_
           refine pU_ 22 34 (bm 35 8388607) HT_.out ?_
           refine pU_ 23 35 (bm 35 16777215) HT_.out ?_
           refine pU_ 24 36 (bm 35 33554431) HT_.out ?_
           refine pU_ 25 37 (bm 35 67108863) HT_.out ?_
           refine pU_ 26 38 (bm 35 134217727) HT_.out ?_
           refine pU_ 27 39 (bm 35 268435455) HT_.out ?_
           refine pU_ 28 40 (bm 35 536870911) HT_.out ?_
           refine pU_ 29 41 (bm 35 1073741823) HT_.out ?_
           refine pU_ 30 42 (bm 35 2147483647) HT_.out ?_
           refine pU_ 31 43 (bm 35 4294967295) HT_.out ?_
           refine pU_ 32 44 (bm 35 8589934591) HT_.out ?_
           refine pU_ 33 45 (bm 35 17179869183) HT_.out ?_
           refine pV_ 34 46 (bm 35 34359738367) HT_.out ?_
           refine done_ (done_of HT_.out (by kernel_rfl)) ?_
           try go_wp2
           go_meet
           case rel => exact ⟨_,(true),(by first | rfl | (simp; done) | (simp [*]; done)),H',⟨by have := HK1.out; first | omega | exact Nat.le_refl _⟩,⟨kA BK450.out⟩,⟨bA⟩⟩
          ·rw [if_neg c15] at H
           have c15b0 : (((rd_T75 l0 x7_1).f1.f0) == 0) = false := beq_eq_false_iff_ne.mpr c15
           have c15b1 : (((rd_T75 l0 x7_1).f1.f0) != 0) = true := bne_iff_ne.mpr c15
           by_cases c19 : x7_1 > 0
           ·rw [if_pos c19] at H
            have c19b0 : decide (0 < x7_1) = true := decide_eq_true c19
            clear c19
            obtain ⟨ji20,hji20⟩ : ∃ j_ : Int,(wrap64 (x7_1 - 1)) = j_ := ⟨_,rfl⟩
            replace H : (if 0 ≤ (ji20) then (if (ji20) < (l0.length : Int) then (impl_BucketsOK.j1 k1 l0 l0 (l0.length : Int) x7_1 (decide (((rd_T75 l0 x7_1).f0) ≤ ((rd_T75 l0 (ji20)).f0)))) else (none)) else (none)) = some r := by first | (rw [hji20] at H; exact H) | (simp only [hji20] at H ⊢; exact H)
            (try rw [hji20] at A11)
            (try rw [hji20] at A13)
            have hji20w : (IntKind.i64.wrap (x7_1 - 1)) = ji20 := (i64_w _).trans hji20
            by_cases c21 : 0 ≤ (ji20)
            ·rw [if_pos c21] at H
             have c21b0 : decide (0 ≤ (ji20)) = true := decide_eq_true c21
             clear c21
             by_cases c22 : (ji20) < (l0.length : Int)
             ·rw [if_pos c22] at H
              have c22b0 : decide ((ji20) < (l0.length : Int)) = true := decide_eq_true c22
              clear c22
              have H' := Aside0.mk H
              clear H
              try go_wp2
              have n0_ : Aside0 ((((((((w6.setCell ⟨gb450,0,none⟩ (.int .i64 ((rd_T75 l0 x7_1).f0))).setCell ⟨gb450,1,none⟩ (.int .i64 ((rd_T75 l0 x7_1).f1.f0))).setCell ⟨gb450,2,none⟩ (.int .i64 ((rd_T75 l0 x7_1).f1.f1))).setCell ⟨gb450,3,none⟩ (.int .i64 ((rd_T75 l0 x7_1).f1.f2))).setCell ⟨gb450,4,none⟩ (.int .i64 ((rd_T75 l0 x7_1).f1.f3))).setCell ⟨gb450,5,none⟩ (.int .i64 ((rd_T75 l0 x7_1).f1.f4))).setCell ⟨gb450,6,none⟩ (.int .i64 ((rd_T75 l0 x7_1).f1.f5))).heap[gb450]? = some (.cells #[.int .i64 ((rd_T75 l0 x7_1).f0),.int .i64 ((rd_T75 l0 x7_1).f1.f0),.int .i64 ((rd_T75 l0 x7_1).f1.f1),.int .i64 ((rd_T75 l0 x7_1).f1.f2),.int .i64 ((rd_T75 l0 x7_1).f1.f3),.int .i64 ((rd_T75 l0 x7_1).f1.f4),.int .i64 ((rd_T75 l0 x7_1).f1.f5)] 75 (0,0))) := ⟨by (with_reducible repeat (first | refine blk_drewN ?_ _ | refine blk_drew ?_ | refine blk_alloc ?_ _)); apply blkp7; (with_reducible repeat (first | refine blk_drewN ?_ _ | refine blk_drew ?_ | refine blk_alloc ?_ _)); exact BK450.out⟩
              have n1_ : Aside0 (Below w.heap.size w (((((((w6.setCell ⟨gb450,0,none⟩ (.int .i64 ((rd_T75 l0 x7_1).f0))).setCell ⟨gb450,1,none⟩ (.int .i64 ((rd_T75 l0 x7_1).f1.f0))).setCell ⟨gb450,2,none⟩ (.int .i64 ((rd_T75 l0 x7_1).f1.f1))).setCell ⟨gb450,3,none⟩ (.int .i64 ((rd_T75 l0 x7_1).f1.f2))).setCell ⟨gb450,4,none⟩ (.int .i64 ((rd_T75 l0 x7_1).f1.f3))).setCell ⟨gb450,5,none⟩ (.int .i64 ((rd_T75 l0 x7_1).f1.f4))).setCell ⟨gb450,6,none⟩ (.int .i64 ((rd_T75 l0 x7_1).f1.f5)))) := ⟨bA⟩
              (try clear BK450)
              (try clear HB)
              generalize (((((((w6.setCell ⟨gb450,0,none⟩ (.int .i64 ((rd_T75 l0 x7_1).f0))).setCell ⟨gb450,1,none⟩ (.int .i64 ((rd_T75 l0 x7_1).f1.f0))).setCell ⟨gb450,2,none⟩ (.int .i64 ((rd_T75 l0 x7_1).f1.f1))).setCell ⟨gb450,3,none⟩ (.int .i64 ((rd_T75 l0 x7_1).f1.f2))).setCell ⟨gb450,4,none⟩ (.int .i64 ((rd_T75 l0 x7_1).f1.f3))).setCell ⟨gb450,5,none⟩ (.int .i64 ((rd_T75 l0 x7_1).f1.f4))).setCell ⟨gb450,6,none⟩ (.int .i64 ((rd_T75 l0 x7_1).f1.f5))) = w23 at n0_ n1_ ⊢
              have BK450 := n0_
              have HB := n1_
              clear n0_ n1_
              have n0_ := Aside0.mk (blk_drew BK450.out)
              have n1_ := Aside0.mk (below_drew1 HB.out)
              clear BK450
              clear HB
              have BK450 := n0_
              have HB := n1_
              clear n0_ n1_
              have p453 : 0 ≤ ((ji20) : Int) := od
              have q453 : (ji20) < (l0.length : Int) := od
              obtain ⟨ad453,e453,hx453_0,hx453_1,hx453_2,hx453_3,hx453_4,hx453_5,hx453_6⟩ := at_T75 HR0.out (ji20) p453 q453
              have hw453_6 := hx453_6
              have hw453_5 := hx453_5
              have hw453_4 := hx453_4
              have hw453_3 := hx453_3
              have hw453_2 := hx453_2
              have hw453_1 := hx453_1
              have hw453_0 := hx453_0
              obtain rfl : ad449 = ad453 := (by injection e453)
              replace hx453_0 := cb HB.out hx453_0
              replace hx453_1 := cb HB.out hx453_1
              replace hx453_2 := cb HB.out hx453_2
              replace hx453_3 := cb HB.out hx453_3
              replace hx453_4 := cb HB.out hx453_4
              replace hx453_5 := cb HB.out hx453_5
              replace hx453_6 := cb HB.out hx453_6
              replace p453 := eq_true p453
              replace q453 := eq_true q453
              refine start_ (n:=35) (S:=fun w' => w'.cell? ⟨gb450,0,none⟩ = some (.int .i64 ((rd_T75 l0 x7_1).f0)) ∧ w'.cell? ⟨gb450,1,none⟩ = some (.int .i64 ((rd_T75 l0 x7_1).f1.f0)) ∧ w'.cell? ⟨gb450,2,none⟩ = some (.int .i64 ((rd_T75 l0 x7_1).f1.f1)) ∧ w'.cell? ⟨gb450,3,none⟩ = some (.int .i64 ((rd_T75 l0 x7_1).f1.f2)) ∧ w'.cell? ⟨gb450,4,none⟩ = some (.int .i64 ((rd_T75 l0 x7_1).f1.f3)) ∧ w'.cell? ⟨gb450,5,none⟩ = some (.int .i64 ((rd_T75 l0 x7_1).f1.f4)) ∧ w'.cell? ⟨gb450,6,none⟩ = some (.int .i64 ((rd_T75 l0 x7_1).f1.f5)) ∧ w'.cell? (ad449.add (((ji20)).toNat * 7)) = some (.int .i64 ((rd_T75 l0 (ji20)).f0)) ∧ w'.cell? ⟨(ad449.add (((ji20)).toNat * 7)).block,(ad449.add (((ji20)).toNat * 7)).off + 1,none⟩ = some (.int .i64 ((rd_T75 l0 (ji20)).f1.f0)) ∧ w'.cell? ⟨(ad449.add (((ji20)).toNat * 7)).block,(ad449.add (((ji20)).toNat * 7)).off + 2,none⟩ = some (.int .i64 ((rd_T75 l0 (ji20)).f1.f1)) ∧ w'.cell? ⟨(ad449.add (((ji20)).toNat * 7)).block,(ad449.add (((ji20)).toNat * 7)).off + 3,none⟩ = some (.int .i64 ((rd_T75 l0 (ji20)).f1.f2)) ∧ w'.cell? ⟨(ad449.add (((ji20)).toNat * 7)).block,(ad449.add (((ji20)).toNat * 7)).off + 4,none⟩ = some (.int .i64 ((rd_T75 l0 (ji20)).f1.f3)) ∧ w'.cell? ⟨(ad449.add (((ji20)).toNat * 7)).block,(ad449.add (((ji20)).toNat * 7)).off + 5,none⟩ = some (.int .i64 ((rd_T75 l0 (ji20)).f1.f4)) ∧ w'.cell? ⟨(ad449.add (((ji20)).toNat * 7)).block,(ad449.add (((ji20)).toNat * 7)).off + 6,none⟩ = some (.int .i64 ((rd_T75 l0 (ji20)).f1.f5))) (ds := []) (bm 35 0) (by kernel_rfl) rfl rfl ⟨(blk_cell BK450.out 0).trans rfl,(blk_cell BK450.out 1).trans rfl,(blk_cell BK450.out 2).trans rfl,(blk_cell BK450.out 3).trans rfl,(blk_cell BK450.out 4).trans rfl,(blk_cell BK450.out 5).trans rfl,(blk_cell BK450.out 6).trans rfl,(cb HB.out hw453_0),(cb HB.out hw453_1),(cb HB.out hw453_2),(cb HB.out hw453_3),(cb HB.out hw453_4),(cb HB.out hw453_5),(cb HB.out hw453_6)⟩ (fun hHeld => ?_); refine with_tabW impl_BucketsOK.tab4 impl_BucketsOK.bits4 (fun HT_ HW_ => ?_)
              generalize w23.drew = w24 at BK450 HB hx453_0 hx453_1 hx453_2 hx453_3 hx453_4 hx453_5 hx453_6 hHeld ⊢
              refine pV_ 0 12 (bm 35 1) HT_.out ?_
              refine pV_ 1 13 (bm 35 3) HT_.out ?_
              refine pV_ 2 14 (bm 35 7) HT_.out ?_
              refine pV_ 3 15 (bm 35 15) HT_.out ?_
              refine take_ (i:=4) (N:=some 16) (v:=?_) (a':=?_) (bm 35 31) rfl rfl (take_ofW HT_.out HW_.out (by kernel_rfl)) (fun _ _ _ h => h) (Or.inl ⟨by rfl,?_⟩) hHeld ?_ ?_
              rotate_left
              ·rintro w' ⟨s0,s1,s2,s3,s4,s5,s6,s7,s8,s9,s10,s11,s12,s13⟩
               go_simp
               with_reducible rfl
              rotate_left
              ·simp only [Act.put,setIfInBounds_toArray,set_cons_zero,set_cons_succ,i64_w,i32_w]
               rfl
              refine one_ (i:=5) (N:=some 17) (bm 35 63) rfl rfl (one_of HT_.out (by kernel_rfl)) (by decide) (fun K hK => ?_)
              refine goes_ Tryz.func70 (by kernel_rfl) rfl #[.int .i64 ((rd_T75 l0 x7_1).f0)] (by rfl) rfl rfl mA ?_
              with_reducible refine (impl_isMoment.calls ((rd_T75 l0 x7_1).f0) true _ A11.out).mono ?_
              rintro e w' ⟨rfl,⟨nd,rfl⟩⟩
              refine ⟨_,rfl,?_⟩
              refine hK.out _ _ ⟨(blk_cell BK450.out 0).trans rfl,(blk_cell BK450.out 1).trans rfl,(blk_cell BK450.out 2).trans rfl,(blk_cell BK450.out 3).trans rfl,(blk_cell BK450.out 4).trans rfl,(blk_cell BK450.out 5).trans rfl,(blk_cell BK450.out 6).trans rfl,(cb HB.out hw453_0),(cb HB.out hw453_1),(cb HB.out hw453_2),(cb HB.out hw453_3),(cb HB.out hw453_4),(cb HB.out hw453_5),(cb HB.out hw453_6)⟩ (fun hHeld => ?_)
              clear hK K
              refine norm_ (a':=?_) ?_ ?_
              rotate_left
              ·show Act.put _ (some 17) _ = _
               simp only [Act.put,setIfInBounds_toArray,set_cons_zero,set_cons_succ,i64_w,i32_w]
               rfl
              refine pV_ 6 18 (bm 35 127) HT_.out ?_
              refine pV_ 7 19 (bm 35 255) HT_.out ?_
              refine pV_ 8 20 (bm 35 511) HT_.out ?_
              refine pV_ 9 21 (bm 35 1023) HT_.out ?_
              refine take_ (i:=10) (N:=some 22) (v:=?_) (a':=?_) (bm 35 2047) rfl rfl (take_ofW HT_.out HW_.out (by kernel_rfl)) (fun _ _ _ h => h) (Or.inl ⟨by rfl,?_⟩) hHeld ?_ ?_
              rotate_left
              ·rintro w' ⟨s0,s1,s2,s3,s4,s5,s6,s7,s8,s9,s10,s11,s12,s13⟩
               go_simp
               with_reducible rfl
              rotate_left
              ·simp only [Act.put,setIfInBounds_toArray,set_cons_zero,set_cons_succ,i64_w,i32_w]
               rfl
              refine one_ (i:=11) (N:=some 23) (bm 35 4095) rfl rfl (one_of HT_.out (by kernel_rfl)) (by decide) (fun K hK => ?_)
              refine goes_ Tryz.func74 (by kernel_rfl) rfl #[.agg #[.int .i64 ((rd_T75 l0 x7_1).f1.f0),.int .i64 ((rd_T75 l0 x7_1).f1.f1),.int .i64 ((rd_T75 l0 x7_1).f1.f2),.int .i64 ((rd_T75 l0 x7_1).f1.f3),.int .i64 ((rd_T75 l0 x7_1).f1.f4),.int .i64 ((rd_T75 l0 x7_1).f1.f5)]] (by rfl) rfl rfl mA ?_
              with_reducible refine (impl_AggOK.calls ((rd_T75 l0 x7_1).f1.f0) ((rd_T75 l0 x7_1).f1.f1) ((rd_T75 l0 x7_1).f1.f2) ((rd_T75 l0 x7_1).f1.f3) ((rd_T75 l0 x7_1).f1.f4) ((rd_T75 l0 x7_1).f1.f5) true _ A13.out).mono ?_
              rintro e w25 ⟨rfl,hb⟩
              refine ⟨_,rfl,?_⟩
              have n0_ := Aside0.mk (blk_below (g:=gb450) (o:=.cells #[.int .i64 ((rd_T75 l0 x7_1).f0),.int .i64 ((rd_T75 l0 x7_1).f1.f0),.int .i64 ((rd_T75 l0 x7_1).f1.f1),.int .i64 ((rd_T75 l0 x7_1).f1.f2),.int .i64 ((rd_T75 l0 x7_1).f1.f3),.int .i64 ((rd_T75 l0 x7_1).f1.f4),.int .i64 ((rd_T75 l0 x7_1).f1.f5)] 75 (0,0)) (kA BK450.out) hb)
              have n1_ := Aside0.mk (below_step bA hb)
              clear BK450
              clear HB
              have BK450 := n0_
              have HB := n1_
              clear n0_ n1_
              (try clear hb)
              (try clear hb2)
              (try clear hk)
              (try clear hi)
              refine hK.out _ _ ⟨(blk_cell BK450.out 0).trans rfl,(blk_cell BK450.out 1).trans rfl,(blk_cell BK450.out 2).trans rfl,(blk_cell BK450.out 3).trans rfl,(blk_cell BK450.out 4).trans rfl,(blk_cell BK450.out 5).trans rfl,(blk_cell BK450.out 6).trans rfl,(cb HB.out hw453_0),(cb HB.out hw453_1),(cb HB.out hw453_2),(cb HB.out hw453_3),(cb HB.out hw453_4),(cb HB.out hw453_5),(cb HB.out hw453_6)⟩ (fun hHeld => ?_)
              clear hK K
              refine norm_ (a':=?_) ?_ ?_
              rotate_left
              ·show Act.put _ (some 23) _ = _
               simp only [Act.put,setIfInBounds_toArray,set_cons_zero,set_cons_succ,i64_w,i32_w]
               rfl
              refine pV_ 12 24 (bm 35 8191) HT_.out ?_
              refine pV_ 13 25 (bm 35 16383) HT_.out ?_
              refine pV_ 14 26 (bm 35 32767) HT_.out ?_
              refine pV_ 15 27 (bm 35 65535) HT_.out ?_
              refine pV_ 16 28 (bm 35 131071) HT_.out ?_
              refine take_ (i:=17) (N:=some 29) (v:=?_) (a':=?_) (bm 35 262143) rfl rfl (take_ofW HT_.out HW_.out (by kernel_rfl)) (fun _ _ _ h => h) (Or.inl ⟨by rfl,?_⟩) hHeld ?_ ?_
              rotate_left
              ·rintro w' ⟨s0,s1,s2,s3,s4,s5,s6,s7,s8,s9,s10,s11,s12,s13⟩
               go_simp
               with_reducible rfl
              rotate_left
              ·simp only [Act.put,setIfInBounds_toArray,set_cons_zero,set_cons_succ,i64_w,i32_w]
               rfl
              refine pV_ 18 30 (bm 35 524287) HT_.out ?_
              refine pV_ 19 31 (bm 35 1048575) HT_.out ?_
              refine pV_ 20 32 (bm 35 2097151) HT_.out ?_
              refine pV_ 21 33 (bm 35 4194303) HT_.out ?_
              refine pV_ 22 34 (bm 35 8388607) HT_.out ?_
              refine pV_ 23 35 (bm 35 16777215) HT_.out ?_
              refine pV_ 24 36 (bm 35 33554431) HT_.out ?_
              refine pV_ 26 38 (bm 35 100663295) HT_.out ?_
              refine pV_ 27 39 (bm 35 234881023) HT_.out ?_
              refine pV_ 28 40 (bm 35 503316479) HT_.out ?_
              refine pV_ 29 41 (bm 35 1040187391) HT_.out ?_
              refine pV_ 30 42 (bm 35 2113929215) HT_.out ?_
              refine take_ (i:=25) (N:=some 37) (v:=?_) (a':=?_) (bm 35 2147483647) rfl rfl (take_ofW HT_.out HW_.out (by kernel_rfl)) (fun _ _ _ h => h) (Or.inl ⟨by rfl,?_⟩) hHeld ?_ ?_
              rotate_left
              ·rintro w' ⟨s0,s1,s2,s3,s4,s5,s6,s7,s8,s9,s10,s11,s12,s13⟩
               go_simp
               with_reducible rfl
              rotate_left
              ·simp only [Act.put,setIfInBounds_toArray,set_cons_zero,set_cons_succ,i64_w,i32_w]
               rfl
              refine take_ (i:=31) (N:=some 43) (v:=?_) (a':=?_) (bm 35 4294967295) rfl rfl (take_ofW HT_.out HW_.out (by kernel_rfl)) (fun _ _ _ h => h) (Or.inl ⟨by rfl,?_⟩) hHeld ?_ ?_
              rotate_left
              ·rintro w' ⟨s0,s1,s2,s3,s4,s5,s6,s7,s8,s9,s10,s11,s12,s13⟩
               go_simp
               with_reducible rfl
              rotate_left
              ·simp only [Act.put,setIfInBounds_toArray,set_cons_zero,set_cons_succ,i64_w,i32_w]
               rfl
              refine pV_ 32 44 (bm 35 8589934591) HT_.out ?_
              refine pV_ 33 45 (bm 35 17179869183) HT_.out ?_
              refine pV_ 34 46 (bm 35 34359738367) HT_.out ?_
              refine done_ (done_of HT_.out (by kernel_rfl)) ?_
              try go_wp2
              go_meet
              case rel => exact ⟨_,(decide (((rd_T75 l0 x7_1).f0) ≤ ((rd_T75 l0 (ji20)).f0))),(by first | rfl | (simp; done) | (simp only [← hji20] <;> (first | rfl | simp)) | (simp [*]; done)),H',⟨by have := HK1.out; first | omega | exact Nat.le_refl _⟩,⟨kA BK450.out⟩,⟨bA⟩⟩
             ·rw [if_neg c22] at H
              exact absurd H (by simp)
            ·rw [if_neg c21] at H
             exact absurd H (by simp)
           ·rw [if_neg c19] at H
            have c19b0 : decide (0 < x7_1) = false := decide_eq_false c19
            clear c19
            have H' := Aside0.mk H
            clear H
            try go_wp2
            have n0_ : Aside0 ((((((((w6.setCell ⟨gb450,0,none⟩ (.int .i64 ((rd_T75 l0 x7_1).f0))).setCell ⟨gb450,1,none⟩ (.int .i64 ((rd_T75 l0 x7_1).f1.f0))).setCell ⟨gb450,2,none⟩ (.int .i64 ((rd_T75 l0 x7_1).f1.f1))).setCell ⟨gb450,3,none⟩ (.int .i64 ((rd_T75 l0 x7_1).f1.f2))).setCell ⟨gb450,4,none⟩ (.int .i64 ((rd_T75 l0 x7_1).f1.f3))).setCell ⟨gb450,5,none⟩ (.int .i64 ((rd_T75 l0 x7_1).f1.f4))).setCell ⟨gb450,6,none⟩ (.int .i64 ((rd_T75 l0 x7_1).f1.f5))).heap[gb450]? = some (.cells #[.int .i64 ((rd_T75 l0 x7_1).f0),.int .i64 ((rd_T75 l0 x7_1).f1.f0),.int .i64 ((rd_T75 l0 x7_1).f1.f1),.int .i64 ((rd_T75 l0 x7_1).f1.f2),.int .i64 ((rd_T75 l0 x7_1).f1.f3),.int .i64 ((rd_T75 l0 x7_1).f1.f4),.int .i64 ((rd_T75 l0 x7_1).f1.f5)] 75 (0,0))) := ⟨by (with_reducible repeat (first | refine blk_drewN ?_ _ | refine blk_drew ?_ | refine blk_alloc ?_ _)); apply blkp7; (with_reducible repeat (first | refine blk_drewN ?_ _ | refine blk_drew ?_ | refine blk_alloc ?_ _)); exact BK450.out⟩
            have n1_ : Aside0 (Below w.heap.size w (((((((w6.setCell ⟨gb450,0,none⟩ (.int .i64 ((rd_T75 l0 x7_1).f0))).setCell ⟨gb450,1,none⟩ (.int .i64 ((rd_T75 l0 x7_1).f1.f0))).setCell ⟨gb450,2,none⟩ (.int .i64 ((rd_T75 l0 x7_1).f1.f1))).setCell ⟨gb450,3,none⟩ (.int .i64 ((rd_T75 l0 x7_1).f1.f2))).setCell ⟨gb450,4,none⟩ (.int .i64 ((rd_T75 l0 x7_1).f1.f3))).setCell ⟨gb450,5,none⟩ (.int .i64 ((rd_T75 l0 x7_1).f1.f4))).setCell ⟨gb450,6,none⟩ (.int .i64 ((rd_T75 l0 x7_1).f1.f5)))) := ⟨bA⟩
            (try clear BK450)
            (try clear HB)
            generalize (((((((w6.setCell ⟨gb450,0,none⟩ (.int .i64 ((rd_T75 l0 x7_1).f0))).setCell ⟨gb450,1,none⟩ (.int .i64 ((rd_T75 l0 x7_1).f1.f0))).setCell ⟨gb450,2,none⟩ (.int .i64 ((rd_T75 l0 x7_1).f1.f1))).setCell ⟨gb450,3,none⟩ (.int .i64 ((rd_T75 l0 x7_1).f1.f2))).setCell ⟨gb450,4,none⟩ (.int .i64 ((rd_T75 l0 x7_1).f1.f3))).setCell ⟨gb450,5,none⟩ (.int .i64 ((rd_T75 l0 x7_1).f1.f4))).setCell ⟨gb450,6,none⟩ (.int .i64 ((rd_T75 l0 x7_1).f1.f5))) = w26 at n0_ n1_ ⊢
            have BK450 := n0_
            have HB := n1_
            clear n0_ n1_
            have n0_ := Aside0.mk (blk_drew BK450.out)
            have n1_ := Aside0.mk (below_drew1 HB.out)
            clear BK450
            clear HB
            have BK450 := n0_
            have HB := n1_
            clear n0_ n1_
            refine start_ (n:=35) (S:=fun w' => w'.cell? ⟨gb450,0,none⟩ = some (.int .i64 ((rd_T75 l0 x7_1).f0)) ∧ w'.cell? ⟨gb450,1,none⟩ = some (.int .i64 ((rd_T75 l0 x7_1).f1.f0)) ∧ w'.cell? ⟨gb450,2,none⟩ = some (.int .i64 ((rd_T75 l0 x7_1).f1.f1)) ∧ w'.cell? ⟨gb450,3,none⟩ = some (.int .i64 ((rd_T75 l0 x7_1).f1.f2)) ∧ w'.cell? ⟨gb450,4,none⟩ = some (.int .i64 ((rd_T75 l0 x7_1).f1.f3)) ∧ w'.cell? ⟨gb450,5,none⟩ = some (.int .i64 ((rd_T75 l0 x7_1).f1.f4)) ∧ w'.cell? ⟨gb450,6,none⟩ = some (.int .i64 ((rd_T75 l0 x7_1).f1.f5))) (ds := []) (bm 35 0) (by kernel_rfl) rfl rfl ⟨(blk_cell BK450.out 0).trans rfl,(blk_cell BK450.out 1).trans rfl,(blk_cell BK450.out 2).trans rfl,(blk_cell BK450.out 3).trans rfl,(blk_cell BK450.out 4).trans rfl,(blk_cell BK450.out 5).trans rfl,(blk_cell BK450.out 6).trans rfl⟩ (fun hHeld => ?_); refine with_tabW impl_BucketsOK.tab4 impl_BucketsOK.bits4 (fun HT_ HW_ => ?_)
            generalize w26.drew = w27 at BK450 HB hHeld ⊢
            refine pV_ 0 12 (bm 35 1) HT_.out ?_
            refine pV_ 1 13 (bm 35 3) HT_.out ?_
            refine pV_ 2 14 (bm 35 7) HT_.out ?_
            refine pV_ 3 15 (bm 35 15) HT_.out ?_
            refine take_ (i:=4) (N:=some 16) (v:=?_) (a':=?_) (bm 35 31) rfl rfl (take_ofW HT_.out HW_.out (by kernel_rfl)) (fun _ _ _ h => h) (Or.inl ⟨by rfl,?_⟩) hHeld ?_ ?_
            rotate_left
            ·rintro w' ⟨s0,s1,s2,s3,s4,s5,s6⟩
             go_simp
             with_reducible rfl
            rotate_left
            ·simp only [Act.put,setIfInBounds_toArray,set_cons_zero,set_cons_succ,i64_w,i32_w]
             rfl
            refine one_ (i:=5) (N:=some 17) (bm 35 63) rfl rfl (one_of HT_.out (by kernel_rfl)) (by decide) (fun K hK => ?_)
            refine goes_ Tryz.func70 (by kernel_rfl) rfl #[.int .i64 ((rd_T75 l0 x7_1).f0)] (by rfl) rfl rfl mA ?_
            with_reducible refine (impl_isMoment.calls ((rd_T75 l0 x7_1).f0) true _ A11.out).mono ?_
            rintro e w' ⟨rfl,⟨nd,rfl⟩⟩
            refine ⟨_,rfl,?_⟩
            refine hK.out _ _ ⟨(blk_cell BK450.out 0).trans rfl,(blk_cell BK450.out 1).trans rfl,(blk_cell BK450.out 2).trans rfl,(blk_cell BK450.out 3).trans rfl,(blk_cell BK450.out 4).trans rfl,(blk_cell BK450.out 5).trans rfl,(blk_cell BK450.out 6).trans rfl⟩ (fun hHeld => ?_)
            clear hK K
            refine norm_ (a':=?_) ?_ ?_
            rotate_left
            ·show Act.put _ (some 17) _ = _
             simp only [Act.put,setIfInBounds_toArray,set_cons_zero,set_cons_succ,i64_w,i32_w]
             rfl
            refine pV_ 6 18 (bm 35 127) HT_.out ?_
            refine pV_ 7 19 (bm 35 255) HT_.out ?_
            refine pV_ 8 20 (bm 35 511) HT_.out ?_
            refine pV_ 9 21 (bm 35 1023) HT_.out ?_
            refine take_ (i:=10) (N:=some 22) (v:=?_) (a':=?_) (bm 35 2047) rfl rfl (take_ofW HT_.out HW_.out (by kernel_rfl)) (fun _ _ _ h => h) (Or.inl ⟨by rfl,?_⟩) hHeld ?_ ?_
            rotate_left
            ·rintro w' ⟨s0,s1,s2,s3,s4,s5,s6⟩
             go_simp
             with_reducible rfl
            rotate_left
            ·simp only [Act.put,setIfInBounds_toArray,set_cons_zero,set_cons_succ,i64_w,i32_w]
             rfl
            refine one_ (i:=11) (N:=some 23) (bm 35 4095) rfl rfl (one_of HT_.out (by kernel_rfl)) (by decide) (fun K hK => ?_)
            refine goes_ Tryz.func74 (by kernel_rfl) rfl #[.agg #[.int .i64 ((rd_T75 l0 x7_1).f1.f0),.int .i64 ((rd_T75 l0 x7_1).f1.f1),.int .i64 ((rd_T75 l0 x7_1).f1.f2),.int .i64 ((rd_T75 l0 x7_1).f1.f3),.int .i64 ((rd_T75 l0 x7_1).f1.f4),.int .i64 ((rd_T75 l0 x7_1).f1.f5)]] (by rfl) rfl rfl mA ?_
            with_reducible refine (impl_AggOK.calls ((rd_T75 l0 x7_1).f1.f0) ((rd_T75 l0 x7_1).f1.f1) ((rd_T75 l0 x7_1).f1.f2) ((rd_T75 l0 x7_1).f1.f3) ((rd_T75 l0 x7_1).f1.f4) ((rd_T75 l0 x7_1).f1.f5) true _ A13.out).mono ?_
            rintro e w28 ⟨rfl,hb⟩
            refine ⟨_,rfl,?_⟩
            have n0_ := Aside0.mk (blk_below (g:=gb450) (o:=.cells #[.int .i64 ((rd_T75 l0 x7_1).f0),.int .i64 ((rd_T75 l0 x7_1).f1.f0),.int .i64 ((rd_T75 l0 x7_1).f1.f1),.int .i64 ((rd_T75 l0 x7_1).f1.f2),.int .i64 ((rd_T75 l0 x7_1).f1.f3),.int .i64 ((rd_T75 l0 x7_1).f1.f4),.int .i64 ((rd_T75 l0 x7_1).f1.f5)] 75 (0,0)) (kA BK450.out) hb)
            have n1_ := Aside0.mk (below_step bA hb)
            clear BK450
            clear HB
            have BK450 := n0_
            have HB := n1_
            clear n0_ n1_
            (try clear hb)
            (try clear hb2)
            (try clear hk)
            (try clear hi)
            refine hK.out _ _ ⟨(blk_cell BK450.out 0).trans rfl,(blk_cell BK450.out 1).trans rfl,(blk_cell BK450.out 2).trans rfl,(blk_cell BK450.out 3).trans rfl,(blk_cell BK450.out 4).trans rfl,(blk_cell BK450.out 5).trans rfl,(blk_cell BK450.out 6).trans rfl⟩ (fun hHeld => ?_)
            clear hK K
            refine norm_ (a':=?_) ?_ ?_
            rotate_left
            ·show Act.put _ (some 23) _ = _
             simp only [Act.put,setIfInBounds_toArray,set_cons_zero,set_cons_succ,i64_w,i32_w]
             rfl
            refine pV_ 12 24 (bm 35 8191) HT_.out ?_
            refine pV_ 13 25 (bm 35 16383) HT_.out ?_
            refine pV_ 14 26 (bm 35 32767) HT_.out ?_
            refine pV_ 15 27 (bm 35 65535) HT_.out ?_
            refine pV_ 16 28 (bm 35 131071) HT_.out ?_
            refine take_ (i:=17) (N:=some 29) (v:=?_) (a':=?_) (bm 35 262143) rfl rfl (take_ofW HT_.out HW_.out (by kernel_rfl)) (fun _ _ _ h => h) (Or.inl ⟨by rfl,?_⟩) hHeld ?_ ?_
            rotate_left
            ·rintro w' ⟨s0,s1,s2,s3,s4,s5,s6⟩
             go_simp
             with_reducible rfl
            rotate_left
            ·simp only [Act.put,setIfInBounds_toArray,set_cons_zero,set_cons_succ,i64_w,i32_w]
             rfl
            refine pV_ 18 30 (bm 35 524287) HT_.out ?_
            refine pV_ 19 31 (bm 35 1048575) HT_.out ?_
            refine pV_ 20 32 (bm 35 2097151) HT_.out ?_
            refine pV_ 21 33 (bm 35 4194303) HT_.out ?_
            refine pV_ 22 34 (bm 35 8388607) HT_.out ?_
            refine pV_ 23 35 (bm 35 16777215) HT_.out ?_
            refine pU_ 24 36 (bm 35 33554431) HT_.out ?_
            refine pU_ 25 37 (bm 35 67108863) HT_.out ?_
            refine pU_ 26 38 (bm 35 134217727) HT_.out ?_
            refine pU_ 27 39 (bm 35 268435455) HT_.out ?_
            refine pU_ 28 40 (bm 35 536870911) HT_.out ?_
            refine pU_ 29 41 (bm 35 1073741823) HT_.out ?_
            refine pU_ 30 42 (bm 35 2147483647) HT_.out ?_
            refine pU_ 31 43 (bm 35 4294967295) HT_.out ?_
            refine pU_ 32 44 (bm 35 8589934591) HT_.out ?_
            refine pV_ 33 45 (bm 35 17179869183) HT_.out ?_
            refine pV_ 34 46 (bm 35 34359738367) HT_.out ?_
            refine done_ (done_of HT_.out (by kernel_rfl)) ?_
            try go_wp2
            go_meet
            case rel => exact ⟨_,(false),(by first | rfl | (simp; done) | (simp [*]; done)),H',⟨by have := HK1.out; first | omega | exact Nat.le_refl _⟩,⟨kA BK450.out⟩,⟨bA⟩⟩
         ·replace c14 := Bool.eq_false_iff.mpr c14
          subst c14
          rw [if_neg (show ¬ (false = true) by decide)] at H
          have H' := Aside0.mk H
          clear H
          try go_wp2
          have n0_ : Aside0 ((((((((w6.setCell ⟨gb450,0,none⟩ (.int .i64 ((rd_T75 l0 x7_1).f0))).setCell ⟨gb450,1,none⟩ (.int .i64 ((rd_T75 l0 x7_1).f1.f0))).setCell ⟨gb450,2,none⟩ (.int .i64 ((rd_T75 l0 x7_1).f1.f1))).setCell ⟨gb450,3,none⟩ (.int .i64 ((rd_T75 l0 x7_1).f1.f2))).setCell ⟨gb450,4,none⟩ (.int .i64 ((rd_T75 l0 x7_1).f1.f3))).setCell ⟨gb450,5,none⟩ (.int .i64 ((rd_T75 l0 x7_1).f1.f4))).setCell ⟨gb450,6,none⟩ (.int .i64 ((rd_T75 l0 x7_1).f1.f5))).heap[gb450]? = some (.cells #[.int .i64 ((rd_T75 l0 x7_1).f0),.int .i64 ((rd_T75 l0 x7_1).f1.f0),.int .i64 ((rd_T75 l0 x7_1).f1.f1),.int .i64 ((rd_T75 l0 x7_1).f1.f2),.int .i64 ((rd_T75 l0 x7_1).f1.f3),.int .i64 ((rd_T75 l0 x7_1).f1.f4),.int .i64 ((rd_T75 l0 x7_1).f1.f5)] 75 (0,0))) := ⟨by (with_reducible repeat (first | refine blk_drewN ?_ _ | refine blk_drew ?_ | refine blk_alloc ?_ _)); apply blkp7; (with_reducible repeat (first | refine blk_drewN ?_ _ | refine blk_drew ?_ | refine blk_alloc ?_ _)); exact BK450.out⟩
          have n1_ : Aside0 (Below w.heap.size w (((((((w6.setCell ⟨gb450,0,none⟩ (.int .i64 ((rd_T75 l0 x7_1).f0))).setCell ⟨gb450,1,none⟩ (.int .i64 ((rd_T75 l0 x7_1).f1.f0))).setCell ⟨gb450,2,none⟩ (.int .i64 ((rd_T75 l0 x7_1).f1.f1))).setCell ⟨gb450,3,none⟩ (.int .i64 ((rd_T75 l0 x7_1).f1.f2))).setCell ⟨gb450,4,none⟩ (.int .i64 ((rd_T75 l0 x7_1).f1.f3))).setCell ⟨gb450,5,none⟩ (.int .i64 ((rd_T75 l0 x7_1).f1.f4))).setCell ⟨gb450,6,none⟩ (.int .i64 ((rd_T75 l0 x7_1).f1.f5)))) := ⟨bA⟩
          (try clear BK450)
          (try clear HB)
          generalize (((((((w6.setCell ⟨gb450,0,none⟩ (.int .i64 ((rd_T75 l0 x7_1).f0))).setCell ⟨gb450,1,none⟩ (.int .i64 ((rd_T75 l0 x7_1).f1.f0))).setCell ⟨gb450,2,none⟩ (.int .i64 ((rd_T75 l0 x7_1).f1.f1))).setCell ⟨gb450,3,none⟩ (.int .i64 ((rd_T75 l0 x7_1).f1.f2))).setCell ⟨gb450,4,none⟩ (.int .i64 ((rd_T75 l0 x7_1).f1.f3))).setCell ⟨gb450,5,none⟩ (.int .i64 ((rd_T75 l0 x7_1).f1.f4))).setCell ⟨gb450,6,none⟩ (.int .i64 ((rd_T75 l0 x7_1).f1.f5))) = w29 at n0_ n1_ ⊢
          have BK450 := n0_
          have HB := n1_
          clear n0_ n1_
          have n0_ := Aside0.mk (blk_drew BK450.out)
          have n1_ := Aside0.mk (below_drew1 HB.out)
          clear BK450
          clear HB
          have BK450 := n0_
          have HB := n1_
          clear n0_ n1_
          refine start_ (n:=35) (S:=fun w' => w'.cell? ⟨gb450,0,none⟩ = some (.int .i64 ((rd_T75 l0 x7_1).f0)) ∧ w'.cell? ⟨gb450,1,none⟩ = some (.int .i64 ((rd_T75 l0 x7_1).f1.f0)) ∧ w'.cell? ⟨gb450,2,none⟩ = some (.int .i64 ((rd_T75 l0 x7_1).f1.f1)) ∧ w'.cell? ⟨gb450,3,none⟩ = some (.int .i64 ((rd_T75 l0 x7_1).f1.f2)) ∧ w'.cell? ⟨gb450,4,none⟩ = some (.int .i64 ((rd_T75 l0 x7_1).f1.f3)) ∧ w'.cell? ⟨gb450,5,none⟩ = some (.int .i64 ((rd_T75 l0 x7_1).f1.f4)) ∧ w'.cell? ⟨gb450,6,none⟩ = some (.int .i64 ((rd_T75 l0 x7_1).f1.f5))) (ds := []) (bm 35 0) (by kernel_rfl) rfl rfl ⟨(blk_cell BK450.out 0).trans rfl,(blk_cell BK450.out 1).trans rfl,(blk_cell BK450.out 2).trans rfl,(blk_cell BK450.out 3).trans rfl,(blk_cell BK450.out 4).trans rfl,(blk_cell BK450.out 5).trans rfl,(blk_cell BK450.out 6).trans rfl⟩ (fun hHeld => ?_); refine with_tabW impl_BucketsOK.tab4 impl_BucketsOK.bits4 (fun HT_ HW_ => ?_)
          generalize w29.drew = w30 at BK450 HB hHeld ⊢
          refine pV_ 0 12 (bm 35 1) HT_.out ?_
          refine pV_ 1 13 (bm 35 3) HT_.out ?_
          refine pV_ 2 14 (bm 35 7) HT_.out ?_
          refine pV_ 3 15 (bm 35 15) HT_.out ?_
          refine take_ (i:=4) (N:=some 16) (v:=?_) (a':=?_) (bm 35 31) rfl rfl (take_ofW HT_.out HW_.out (by kernel_rfl)) (fun _ _ _ h => h) (Or.inl ⟨by rfl,?_⟩) hHeld ?_ ?_
          rotate_left
          ·rintro w' ⟨s0,s1,s2,s3,s4,s5,s6⟩
           go_simp
           with_reducible rfl
          rotate_left
          ·simp only [Act.put,setIfInBounds_toArray,set_cons_zero,set_cons_succ,i64_w,i32_w]
           rfl
          refine one_ (i:=5) (N:=some 17) (bm 35 63) rfl rfl (one_of HT_.out (by kernel_rfl)) (by decide) (fun K hK => ?_)
          refine goes_ Tryz.func70 (by kernel_rfl) rfl #[.int .i64 ((rd_T75 l0 x7_1).f0)] (by rfl) rfl rfl mA ?_
          with_reducible refine (impl_isMoment.calls ((rd_T75 l0 x7_1).f0) true _ A11.out).mono ?_
          rintro e w' ⟨rfl,⟨nd,rfl⟩⟩
          refine ⟨_,rfl,?_⟩
          refine hK.out _ _ ⟨(blk_cell BK450.out 0).trans rfl,(blk_cell BK450.out 1).trans rfl,(blk_cell BK450.out 2).trans rfl,(blk_cell BK450.out 3).trans rfl,(blk_cell BK450.out 4).trans rfl,(blk_cell BK450.out 5).trans rfl,(blk_cell BK450.out 6).trans rfl⟩ (fun hHeld => ?_)
          clear hK K
          refine norm_ (a':=?_) ?_ ?_
          rotate_left
          ·show Act.put _ (some 17) _ = _
           simp only [Act.put,setIfInBounds_toArray,set_cons_zero,set_cons_succ,i64_w,i32_w]
           rfl
          refine pV_ 6 18 (bm 35 127) HT_.out ?_
          refine pV_ 7 19 (bm 35 255) HT_.out ?_
          refine pV_ 8 20 (bm 35 511) HT_.out ?_
          refine pV_ 9 21 (bm 35 1023) HT_.out ?_
          refine take_ (i:=10) (N:=some 22) (v:=?_) (a':=?_) (bm 35 2047) rfl rfl (take_ofW HT_.out HW_.out (by kernel_rfl)) (fun _ _ _ h => h) (Or.inl ⟨by rfl,?_⟩) hHeld ?_ ?_
          rotate_left
          ·rintro w' ⟨s0,s1,s2,s3,s4,s5,s6⟩
           go_simp
           with_reducible rfl
          rotate_left
          ·simp only [Act.put,setIfInBounds_toArray,set_cons_zero,set_cons_succ,i64_w,i32_w]
           rfl
          refine one_ (i:=11) (N:=some 23) (bm 35 4095) rfl rfl (one_of HT_.out (by kernel_rfl)) (by decide) (fun K hK => ?_)
          refine goes_ Tryz.func74 (by kernel_rfl) rfl #[.agg #[.int .i64 ((rd_T75 l0 x7_1).f1.f0),.int .i64 ((rd_T75 l0 x7_1).f1.f1),.int .i64 ((rd_T75 l0 x7_1).f1.f2),.int .i64 ((rd_T75 l0 x7_1).f1.f3),.int .i64 ((rd_T75 l0 x7_1).f1.f4),.int .i64 ((rd_T75 l0 x7_1).f1.f5)]] (by rfl) rfl rfl mA ?_
          with_reducible refine (impl_AggOK.calls ((rd_T75 l0 x7_1).f1.f0) ((rd_T75 l0 x7_1).f1.f1) ((rd_T75 l0 x7_1).f1.f2) ((rd_T75 l0 x7_1).f1.f3) ((rd_T75 l0 x7_1).f1.f4) ((rd_T75 l0 x7_1).f1.f5) false _ A13.out).mono ?_
          rintro e w31 ⟨rfl,hb⟩
          refine ⟨_,rfl,?_⟩
          have n0_ := Aside0.mk (blk_below (g:=gb450) (o:=.cells #[.int .i64 ((rd_T75 l0 x7_1).f0),.int .i64 ((rd_T75 l0 x7_1).f1.f0),.int .i64 ((rd_T75 l0 x7_1).f1.f1),.int .i64 ((rd_T75 l0 x7_1).f1.f2),.int .i64 ((rd_T75 l0 x7_1).f1.f3),.int .i64 ((rd_T75 l0 x7_1).f1.f4),.int .i64 ((rd_T75 l0 x7_1).f1.f5)] 75 (0,0)) (kA BK450.out) hb)
          have n1_ := Aside0.mk (below_step bA hb)
          clear BK450
          clear HB
          have BK450 := n0_
          have HB := n1_
          clear n0_ n1_
          (try clear hb)
          (try clear hb2)
          (try clear hk)
          (try clear hi)
          refine hK.out _ _ ⟨(blk_cell BK450.out 0).trans rfl,(blk_cell BK450.out 1).trans rfl,(blk_cell BK450.out 2).trans rfl,(blk_cell BK450.out 3).trans rfl,(blk_cell BK450.out 4).trans rfl,(blk_cell BK450.out 5).trans rfl,(blk_cell BK450.out 6).trans rfl⟩ (fun hHeld => ?_)
          clear hK K
          refine norm_ (a':=?_) ?_ ?_
          rotate_left
          ·show Act.put _ (some 23) _ = _
           simp only [Act.put,setIfInBounds_toArray,set_cons_zero,set_cons_succ,i64_w,i32_w]
           rfl
          refine pV_ 12 24 (bm 35 8191) HT_.out ?_
          refine pV_ 13 25 (bm 35 16383) HT_.out ?_
          refine pV_ 14 26 (bm 35 32767) HT_.out ?_
          refine pU_ 15 27 (bm 35 65535) HT_.out ?_
          refine pU_ 16 28 (bm 35 131071) HT_.out ?_
          refine pU_ 17 29 (bm 35 262143) HT_.out ?_
          refine pU_ 18 30 (bm 35 524287) HT_.out ?_
          refine pV_ 19 31 (bm 35 1048575) HT_.out ?_
          refine pV_ 20 32 (bm 35 2097151) HT_.out ?_
          refine pU_ 21 33 (bm 35 4194303) HT_.out ?_
          refine pU_ 22 34 (bm 35 8388607) HT_.out ?_
          refine pU_ 23 35 (bm 35 16777215) HT_.out ?_
          refine pU_ 24 36 (bm 35 33554431) HT_.out ?_
          refine pU_ 25 37 (bm 35 67108863) HT_.out ?_
          refine pU_ 26 38 (bm 35 134217727) HT_.out ?_
          refine pU_ 27 39 (bm 35 268435455) HT_.out ?_
          refine pU_ 28 40 (bm 35 536870911) HT_.out ?_
          refine pU_ 29 41 (bm 35 1073741823) HT_.out ?_
          refine pU_ 30 42 (bm 35 2147483647) HT_.out ?_
          refine pU_ 31 43 (bm 35 4294967295) HT_.out ?_
          refine pU_ 32 44 (bm 35 8589934591) HT_.out ?_
          refine pU_ 33 45 (bm 35 17179869183) HT_.out ?_
          refine pV_ 34 46 (bm 35 34359738367) HT_.out ?_
          refine done_ (done_of HT_.out (by kernel_rfl)) ?_
          try go_wp2
          go_meet
          case rel => exact ⟨_,(true),(by first | rfl | (simp; done) | (simp [*]; done)),H',⟨by have := HK1.out; first | omega | exact Nat.le_refl _⟩,⟨kA BK450.out⟩,⟨bA⟩⟩
        ·replace c12 := Bool.eq_false_iff.mpr c12
         subst c12
         rw [if_neg (show ¬ (false = true) by decide)] at H
         have H' := Aside0.mk H
         clear H
         try go_wp2
         have n0_ : Aside0 ((((((((w6.setCell ⟨gb450,0,none⟩ (.int .i64 ((rd_T75 l0 x7_1).f0))).setCell ⟨gb450,1,none⟩ (.int .i64 ((rd_T75 l0 x7_1).f1.f0))).setCell ⟨gb450,2,none⟩ (.int .i64 ((rd_T75 l0 x7_1).f1.f1))).setCell ⟨gb450,3,none⟩ (.int .i64 ((rd_T75 l0 x7_1).f1.f2))).setCell ⟨gb450,4,none⟩ (.int .i64 ((rd_T75 l0 x7_1).f1.f3))).setCell ⟨gb450,5,none⟩ (.int .i64 ((rd_T75 l0 x7_1).f1.f4))).setCell ⟨gb450,6,none⟩ (.int .i64 ((rd_T75 l0 x7_1).f1.f5))).heap[gb450]? = some (.cells #[.int .i64 ((rd_T75 l0 x7_1).f0),.int .i64 ((rd_T75 l0 x7_1).f1.f0),.int .i64 ((rd_T75 l0 x7_1).f1.f1),.int .i64 ((rd_T75 l0 x7_1).f1.f2),.int .i64 ((rd_T75 l0 x7_1).f1.f3),.int .i64 ((rd_T75 l0 x7_1).f1.f4),.int .i64 ((rd_T75 l0 x7_1).f1.f5)] 75 (0,0))) := ⟨by (with_reducible repeat (first | refine blk_drewN ?_ _ | refine blk_drew ?_ | refine blk_alloc ?_ _)); apply blkp7; (with_reducible repeat (first | refine blk_drewN ?_ _ | refine blk_drew ?_ | refine blk_alloc ?_ _)); exact BK450.out⟩
         have n1_ : Aside0 (Below w.heap.size w (((((((w6.setCell ⟨gb450,0,none⟩ (.int .i64 ((rd_T75 l0 x7_1).f0))).setCell ⟨gb450,1,none⟩ (.int .i64 ((rd_T75 l0 x7_1).f1.f0))).setCell ⟨gb450,2,none⟩ (.int .i64 ((rd_T75 l0 x7_1).f1.f1))).setCell ⟨gb450,3,none⟩ (.int .i64 ((rd_T75 l0 x7_1).f1.f2))).setCell ⟨gb450,4,none⟩ (.int .i64 ((rd_T75 l0 x7_1).f1.f3))).setCell ⟨gb450,5,none⟩ (.int .i64 ((rd_T75 l0 x7_1).f1.f4))).setCell ⟨gb450,6,none⟩ (.int .i64 ((rd_T75 l0 x7_1).f1.f5)))) := ⟨bA⟩
         (try clear BK450)
         (try clear HB)
         generalize (((((((w6.setCell ⟨gb450,0,none⟩ (.int .i64 ((rd_T75 l0 x7_1).f0))).setCell ⟨gb450,1,none⟩ (.int .i64 ((rd_T75 l0 x7_1).f1.f0))).setCell ⟨gb450,2,none⟩ (.int .i64 ((rd_T75 l0 x7_1).f1.f1))).setCell ⟨gb450,3,none⟩ (.int .i64 ((rd_T75 l0 x7_1).f1.f2))).setCell ⟨gb450,4,none⟩ (.int .i64 ((rd_T75 l0 x7_1).f1.f3))).setCell ⟨gb450,5,none⟩ (.int .i64 ((rd_T75 l0 x7_1).f1.f4))).setCell ⟨gb450,6,none⟩ (.int .i64 ((rd_T75 l0 x7_1).f1.f5))) = w32 at n0_ n1_ ⊢
         have BK450 := n0_
         have HB := n1_
         clear n0_ n1_
         have n0_ := Aside0.mk (blk_drew BK450.out)
         have n1_ := Aside0.mk (below_drew1 HB.out)
         clear BK450
         clear HB
         have BK450 := n0_
         have HB := n1_
         clear n0_ n1_
         refine start_ (n:=35) (S:=fun w' => w'.cell? ⟨gb450,0,none⟩ = some (.int .i64 ((rd_T75 l0 x7_1).f0)) ∧ w'.cell? ⟨gb450,1,none⟩ = some (.int .i64 ((rd_T75 l0 x7_1).f1.f0)) ∧ w'.cell? ⟨gb450,2,none⟩ = some (.int .i64 ((rd_T75 l0 x7_1).f1.f1)) ∧ w'.cell? ⟨gb450,3,none⟩ = some (.int .i64 ((rd_T75 l0 x7_1).f1.f2)) ∧ w'.cell? ⟨gb450,4,none⟩ = some (.int .i64 ((rd_T75 l0 x7_1).f1.f3)) ∧ w'.cell? ⟨gb450,5,none⟩ = some (.int .i64 ((rd_T75 l0 x7_1).f1.f4)) ∧ w'.cell? ⟨gb450,6,none⟩ = some (.int .i64 ((rd_T75 l0 x7_1).f1.f5))) (ds := []) (bm 35 0) (by kernel_rfl) rfl rfl ⟨(blk_cell BK450.out 0).trans rfl,(blk_cell BK450.out 1).trans rfl,(blk_cell BK450.out 2).trans rfl,(blk_cell BK450.out 3).trans rfl,(blk_cell BK450.out 4).trans rfl,(blk_cell BK450.out 5).trans rfl,(blk_cell BK450.out 6).trans rfl⟩ (fun hHeld => ?_); refine with_tabW impl_BucketsOK.tab4 impl_BucketsOK.bits4 (fun HT_ HW_ => ?_)
         generalize w32.drew = w33 at BK450 HB hHeld ⊢
         refine pV_ 0 12 (bm 35 1) HT_.out ?_
         refine pV_ 1 13 (bm 35 3) HT_.out ?_
         refine pV_ 2 14 (bm 35 7) HT_.out ?_
         refine pV_ 3 15 (bm 35 15) HT_.out ?_
         refine take_ (i:=4) (N:=some 16) (v:=?_) (a':=?_) (bm 35 31) rfl rfl (take_ofW HT_.out HW_.out (by kernel_rfl)) (fun _ _ _ h => h) (Or.inl ⟨by rfl,?_⟩) hHeld ?_ ?_
         rotate_left
         ·rintro w' ⟨s0,s1,s2,s3,s4,s5,s6⟩
          go_simp
          with_reducible rfl
         rotate_left
         ·simp only [Act.put,setIfInBounds_toArray,set_cons_zero,set_cons_succ,i64_w,i32_w]
          rfl
         refine one_ (i:=5) (N:=some 17) (bm 35 63) rfl rfl (one_of HT_.out (by kernel_rfl)) (by decide) (fun K hK => ?_)
         refine goes_ Tryz.func70 (by kernel_rfl) rfl #[.int .i64 ((rd_T75 l0 x7_1).f0)] (by rfl) rfl rfl mA ?_
         with_reducible refine (impl_isMoment.calls ((rd_T75 l0 x7_1).f0) false _ A11.out).mono ?_
         rintro e w' ⟨rfl,⟨nd,rfl⟩⟩
         refine ⟨_,rfl,?_⟩
         refine hK.out _ _ ⟨(blk_cell BK450.out 0).trans rfl,(blk_cell BK450.out 1).trans rfl,(blk_cell BK450.out 2).trans rfl,(blk_cell BK450.out 3).trans rfl,(blk_cell BK450.out 4).trans rfl,(blk_cell BK450.out 5).trans rfl,(blk_cell BK450.out 6).trans rfl⟩ (fun hHeld => ?_)
         clear hK K
         refine norm_ (a':=?_) ?_ ?_
         rotate_left
         ·show Act.put _ (some 17) _ = _
          simp only [Act.put,setIfInBounds_toArray,set_cons_zero,set_cons_succ,i64_w,i32_w]
          rfl
         refine pV_ 6 18 (bm 35 127) HT_.out ?_
         refine pV_ 7 19 (bm 35 255) HT_.out ?_
         refine pV_ 8 20 (bm 35 511) HT_.out ?_
         refine pU_ 9 21 (bm 35 1023) HT_.out ?_
         refine pU_ 10 22 (bm 35 2047) HT_.out ?_
         refine pU_ 11 23 (bm 35 4095) HT_.out ?_
         refine pU_ 12 24 (bm 35 8191) HT_.out ?_
         refine pV_ 13 25 (bm 35 16383) HT_.out ?_
         refine pV_ 14 26 (bm 35 32767) HT_.out ?_
         refine pU_ 15 27 (bm 35 65535) HT_.out ?_
         refine pU_ 16 28 (bm 35 131071) HT_.out ?_
         refine pU_ 17 29 (bm 35 262143) HT_.out ?_
         refine pU_ 18 30 (bm 35 524287) HT_.out ?_
         refine pV_ 19 31 (bm 35 1048575) HT_.out ?_
         refine pV_ 20 32 (bm 35 2097151) HT_.out ?_
         refine pU_ 21 33 (bm 35 4194303) HT_.out ?_
         refine pU_ 22 34 (bm 35 8388607) HT_.out ?_
         refine pU_ 23 35 (bm 35 16777215) HT_.out ?_
         refine pU_ 24 36 (bm 35 33554431) HT_.out ?_
         refine pU_ 25 37 (bm 35 67108863) HT_.out ?_
         refine pU_ 26 38 (bm 35 134217727) HT_.out ?_
         refine pU_ 27 39 (bm 35 268435455) HT_.out ?_
         refine pU_ 28 40 (bm 35 536870911) HT_.out ?_
         refine pU_ 29 41 (bm 35 1073741823) HT_.out ?_
         refine pU_ 30 42 (bm 35 2147483647) HT_.out ?_
         refine pU_ 31 43 (bm 35 4294967295) HT_.out ?_
         refine pU_ 32 44 (bm 35 8589934591) HT_.out ?_
         refine pU_ 33 45 (bm 35 17179869183) HT_.out ?_
         refine pV_ 34 46 (bm 35 34359738367) HT_.out ?_
         refine done_ (done_of HT_.out (by kernel_rfl)) ?_
         try go_wp2
         go_meet
         case rel => exact ⟨_,(true),(by first | rfl | (simp; done) | (simp [*]; done)),H',⟨by have := HK1.out; first | omega | exact Nat.le_refl _⟩,⟨kA BK450.out⟩,⟨bA⟩⟩
      case rest =>
       clear HC5
       try clear c1
       try clear p2
       try clear c7
       try clear c12
       try clear c14
       obtain ⟨kq,x46_4,rfl,HA,HJ4,BK450,HB⟩ := hcut
       cases kq with
       | zero => exact absurd HA.out (by simp [impl_BucketsOK.j1])
       | succ kj4 =>
        have H := HA.out
        clear HA
        simp only [impl_BucketsOK.j1] at H
        by_cases c34 : x46_4 = true
        ·subst c34
         rw [if_pos rfl] at H
         obtain rfl := Option.some.inj H
         go_wp2
         go_ret
         exact ⟨by first | rfl | (simp only [i64_w,i32_w] <;> rfl) | (simp [errW_none,errW_some] <;> rfl) | (simp [*,errW_none,errW_some] <;> rfl),bA⟩
        ·replace c34 := Bool.eq_false_iff.mpr c34
         subst c34
         rw [if_neg (show ¬ (false = true) by decide)] at H
         have H' := Aside0.mk H
         clear H
         go_wp2
         go_roundg kj4
         case measure => have := HK1.out; have := HJ4.out; omega
         case rel => exact ⟨(wrap64 (x7_1 + 1)),(by first | rfl | (simp; done) | (simp [*]; done)),H',⟨by have := HK1.out; have := HJ4.out; omega⟩,⟨bA⟩⟩
     ·rw [if_neg c4] at H
      exact absurd H (by simp)
    ·rw [if_neg c3] at H
     exact absurd H (by simp)
   ·rw [if_neg c2] at H
    have c2b0 : decide (x7_1 < (l0.length : Int)) = false := decide_eq_false c2
    clear c2
    obtain rfl := Option.some.inj H
    go_wp2
    go_ret
    exact ⟨by first | rfl | (simp only [i64_w,i32_w] <;> rfl) | (simp [errW_none,errW_some] <;> rfl) | (simp [*,errW_none,errW_some] <;> rfl),bA⟩

end Go.Proofs.YtleifhnoaaphmaaGreatDoor.XFnExactWindowOf
