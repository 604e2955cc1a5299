-- Printed by this session's own program wip/tools/xprint.py, which widens the kit's print. Not trusted: Lean checks it.
import Derived.Test.YtbdhpmamlibmhaaDoorXFnExactReadBucketsx0
import Derived.Test.YtbdhpmamlibmhaaDoorXFnExactReadBucketsx6
import Derived.Test.YtbdhpmamlibmhaaDoorXFnExactReadBucketsx7
namespace Go.Proofs.YtbdhpmamlibmhaaDoor.XFnExactReadBuckets
open List (setIfInBounds_toArray set_cons_zero set_cons_succ)
open Go.RowKit Go.Proofs.YtbdhpmamlibmhaaDoorW.PrintWords Go.Proofs.YtbdhpmamlibmhaaDoorW.PrintLast Go.Proofs.YtbdhpmamlibmhaaDoorW.PrintMore
attribute [local go_sem] max2_int min2_int max_two min_two max_three min_three max_four min_four   -- for this text's walks alone
set_option linter.unusedVariables false
set_option linter.unusedSimpArgs false

/-! ### impl_BucketsOK: function 111 -/
def impl_BucketsOK.l0 : Nat → List (S88) → List (S88) → Int → Int → Option (Bool)
 | 0,_,_,_,_ => none
 | k + 1,x0,x5,x6,x7 => if x7 < x6 then (if 0 ≤ x7 then (if x7 < (x5.length : Int) then (if x7 = 8 then (some false) else ((impl_isMoment.f ((rd_T88 x5 x7).f0)).bind fun t251 => (if t251 = true then ((impl_AggOK.f ((rd_T88 x5 x7).f1.f0) ((rd_T88 x5 x7).f1.f1) ((rd_T88 x5 x7).f1.f2) ((rd_T88 x5 x7).f1.f3) ((rd_T88 x5 x7).f1.f4) ((rd_T88 x5 x7).f1.f5)).bind fun t252 => (if t252 = true then (if ((rd_T88 x5 x7).f1.f0) = 0 then (some false) else (if x7 > 0 then (if 0 ≤ (wrap64 (x7 - 1)) then (if (wrap64 (x7 - 1)) < (x0.length : Int) then (if ((rd_T88 x5 x7).f0) ≤ ((rd_T88 x0 (wrap64 (x7 - 1))).f0) then (some false) else (impl_BucketsOK.l0 k x0 x5 x6 (wrap64 (x7 + 1)))) else (none)) else (none)) else (impl_BucketsOK.l0 k x0 x5 x6 (wrap64 (x7 + 1))))) else (some false))) else (some false)))) else (none)) else (none)) else (some true)
def impl_BucketsOK.f (k : Nat) (l0 : List (S88)) : Option (Bool) := impl_BucketsOK.l0 k l0 l0 (l0.length : Int) 0
theorem impl_BucketsOK.mono_l : ∀ k,(∀ y0 y1 y2 y3,LeO (impl_BucketsOK.l0 k y0 y1 y2 y3) (impl_BucketsOK.l0 (k + 1) y0 y1 y2 y3))
 | 0 => fun _ _ _ _ r h => by simp [impl_BucketsOK.l0] at h
 | k + 1 => by
  have ih0 := impl_BucketsOK.mono_l k
  ·intro y0 y1 y2 y3
   unfold impl_BucketsOK.l0
   repeat' first
   | (with_reducible exact ih0 _ _ _ _)
   | (with_reducible exact LeO.refl _)
   | (with_reducible exact LeO.none _)
   | (with_reducible refine LeO.ite ?_ ?_)
   | (with_reducible refine LeO.bind ?_ (fun _ => ?_))
   | exact ih0 _ _ _ _
   | exact LeO.none _
   | refine LeO.ite ?_ ?_
   | refine LeO.bind ?_ (fun _ => ?_)
theorem impl_BucketsOK.mono : ∀ a0 k,LeO (impl_BucketsOK.f k a0) (impl_BucketsOK.f (k + 1) a0) := by
 intro a0 k
 have ih0 := impl_BucketsOK.mono_l k
 unfold impl_BucketsOK.f
 repeat' first
   | (with_reducible exact ih0 _ _ _ _)
   | (with_reducible exact LeO.refl _)
   | (with_reducible exact LeO.none _)
   | (with_reducible refine LeO.ite ?_ ?_)
   | (with_reducible refine LeO.bind ?_ (fun _ => ?_))
   | exact ih0 _ _ _ _
   | exact LeO.none _
   | refine LeO.ite ?_ ?_
   | refine LeO.bind ?_ (fun _ => ?_)
def impl_BucketsOK.T4 : Bool × List (List Nat × List Nat) := (true,[([],[]),([0],[0]),([1],[1]),([2],[2]),([3,2],[2,3]),([4,2,2],[2,4]),([5,2],[2,5]),([2,6],[2,6]),([7,5],[7]),([8],[8]),([9,8],[8,9]),([10,8,8],[8,10]),([11,8],[8,11]),([8,12],[8,12]),([13,11],[13]),([14],[14]),([15,14],[14,15]),([16,14],[14,16]),([17,14],[14,17]),([14,18],[14,18]),([19,14],[19]),([20],[20]),([21,20],[20,21]),([22,20,20],[20,22]),([23],[23]),([24,23],[23,24]),([23],[23]),([23],[23]),([27,23],[23,27]),([26,28,23],[23,26,28]),([29,23],[23,29]),([30,23],[23,30]),([25,31,23],[23,25,31]),([23,32,20],[20,23,32]),([20,33],[20,33])])
def impl_BucketsOK.B4 : List Nat := [0,1,3,7,15,31,63,127,255,511,1023,2047,4095,8191,16383,32767,65535,131071,262143,524287,1048575,2097151,4194303,8388607,16777215,33554431,16777215,16777215,150994943,486539263,1023410175,2097151999,4294967295,8589934591,17179869183]
theorem impl_BucketsOK.tab4 : rtab .any (opsOf Tryd.f111 4) = impl_BucketsOK.T4 := by kernel_rfl
theorem impl_BucketsOK.bits4 : waitsOk impl_BucketsOK.T4.2 impl_BucketsOK.B4 = true := by kernel_rfl
set_option maxHeartbeats 8000000 in
set_option maxRecDepth 100000 in
theorem impl_BucketsOK.calls (k : Nat) (A0 : Option Addr) (c0 : Nat) (l0 : List (S88)) (r : Bool) (w : World) (hr0 : Kd.C k88 w A0 l0.length l0) (hc0 : l0.length ≤ c0) (h : impl_BucketsOK.f k l0 = some r) :
  Calls Tryd.prog 111 #[.slice A0 l0.length c0] w fun e w' => e = .returned (.bool r) ∧ Below w.heap.size w w' := by
 have hu88 := Tryd.underlying88
 have hu38 := Tryd.underlying38
 have HR0 := Aside0.mk hr0
 have HC0 := Aside0.mk hc0
 clear hr0 hc0
 have HB := Aside0.mk (Below.refl w.heap.size w)
 have H : (impl_BucketsOK.l0 k l0 l0 (l0.length : Int) 0) = some r := h
 clear h
 have H' := Aside0.mk H
 clear H
 go_enter Tryd.func111,Tryd.ntmps111
 go_wp2
 go_loopg [7] k (fun kq v7 w' => ∃ (x7_1 : Int),v7 = .int .i64 x7_1 ∧ Aside0 (impl_BucketsOK.l0 kq l0 l0 (l0.length : Int) x7_1 = some r) ∧ Aside0 (kq ≤ k) ∧ Aside0 (Below w.heap.size w w'))
 case atStart => exact ⟨(0),(by first | rfl | (simp; done) | (simp [*]; done)),H',⟨Nat.le_refl _⟩,⟨by repeat (first | (with_reducible first | exact HB.out | apply below_alloc | apply pw_below_drewN | apply below_drew1) | exact HB.out)⟩⟩
 case round =>
  clear H'
  try clear c1
  obtain ⟨x7_1,rfl,HA,HK1,HB⟩ := hrel
  cases gk with
  | zero => exact absurd HA.out (by simp [impl_BucketsOK.l0])
  | succ k1 =>
   have H := HA.out
   clear HA
   simp only [impl_BucketsOK.l0] at H
   by_cases c2 : x7_1 < (l0.length : Int)
   ·rw [if_pos c2] at H
    have c2b0 : decide (x7_1 < (l0.length : Int)) = true := decide_eq_true c2
    clear c2
    by_cases c3 : 0 ≤ x7_1
    ·rw [if_pos c3] at H
     have c3b0 : decide (0 ≤ x7_1) = true := decide_eq_true c3
     clear c3
     by_cases c4 : x7_1 < (l0.length : Int)
     ·rw [if_pos c4] at H
      have c4b0 : decide (x7_1 < (l0.length : Int)) = true := decide_eq_true c4
      clear c4
      by_cases c5 : x7_1 = 8
      ·rw [if_pos c5] at H
       have c5b0 : (x7_1 == 8) = true := beq_iff_eq.mpr c5
       have c5b1 : (x7_1 != 8) = false := bne_eq_false_iff_eq.mpr c5
       clear c5
       obtain rfl := Option.some.inj H
       have p249 : 0 ≤ (x7_1 : Int) := of_decide_eq_true (by first | (with_reducible assumption) | assumption)
       have q249 : x7_1 < (l0.length : Int) := of_decide_eq_true (by first | (with_reducible assumption) | assumption)
       obtain ⟨ad249,e249,hx249_0,hx249_1,hx249_2,hx249_3,hx249_4,hx249_5,hx249_6⟩ := at_T88 HR0.out x7_1 p249 q249
       cases e249
       replace hx249_0 := (HB.out.cell (bl_ w _ hx249_0)).trans hx249_0
       replace hx249_1 := (HB.out.cell (bl_ w _ hx249_1)).trans hx249_1
       replace hx249_2 := (HB.out.cell (bl_ w _ hx249_2)).trans hx249_2
       replace hx249_3 := (HB.out.cell (bl_ w _ hx249_3)).trans hx249_3
       replace hx249_4 := (HB.out.cell (bl_ w _ hx249_4)).trans hx249_4
       replace hx249_5 := (HB.out.cell (bl_ w _ hx249_5)).trans hx249_5
       replace hx249_6 := (HB.out.cell (bl_ w _ hx249_6)).trans hx249_6
       replace p249 := eq_true p249
       replace q249 := eq_true q249
       try go_wp2_with (first | ((with_reducible refine gate_dst (N:=4) rfl ?_); refine box_event ?hg (N:=4) ?hd (cs := #[.int .i64 0,.int .i64 0,.int .i64 0,.int .i64 0,.int .i64 0,.int .i64 0,.int .i64 0]) (t:=88) ?hr ?_; (case hd => rfl); (case hg => rfl); (case hr => first | (go_simp; done) | (go_simp; rfl)); intro gb250 hg w6 hbox hb; have n0_ := Aside0.mk (below_step (by repeat (first | (with_reducible first | exact HB.out | apply below_alloc | apply pw_below_drewN | apply below_drew1) | exact HB.out)) hb); have n1_ := Aside0.mk (hbox); have n2_ := Aside0.mk ((by rw [hg]; exact (below_size (by repeat (first | (with_reducible first | exact HB.out | apply below_alloc | apply pw_below_drewN | apply below_drew1) | exact HB.out))) : w.heap.size ≤ gb250)); have n3_ := Aside0.mk ((by rw [hg]; exact (below_size (by repeat (first | (with_reducible first | exact HB.out | apply below_alloc | apply pw_below_drewN | apply below_drew1) | exact HB.out))) : w.heap.size ≤ gb250)); clear HB; have HB := n0_; have BK250 := n1_; have GW250 := n2_; have GE250 := n3_; clear n0_ n1_ n2_ n3_; clear hb hbox hg; have hcz7_0 : w6.cell? ⟨gb250,0,none⟩ = some (.int .i64 0) := (blk_cell BK250.out 0).trans rfl; have hcz7_1 : w6.cell? ⟨gb250,1,none⟩ = some (.int .i64 0) := (blk_cell BK250.out 1).trans rfl; have hcz7_2 : w6.cell? ⟨gb250,2,none⟩ = some (.int .i64 0) := (blk_cell BK250.out 2).trans rfl; have hcz7_3 : w6.cell? ⟨gb250,3,none⟩ = some (.int .i64 0) := (blk_cell BK250.out 3).trans rfl; have hcz7_4 : w6.cell? ⟨gb250,4,none⟩ = some (.int .i64 0) := (blk_cell BK250.out 4).trans rfl; have hcz7_5 : w6.cell? ⟨gb250,5,none⟩ = some (.int .i64 0) := (blk_cell BK250.out 5).trans rfl; have hcz7_6 : w6.cell? ⟨gb250,6,none⟩ = some (.int .i64 0) := (blk_cell BK250.out 6).trans rfl; have hfz7_0 := blk_frozen BK250.out 0; have hfz7_1 := blk_frozen BK250.out 1; have hfz7_2 := blk_frozen BK250.out 2; have hfz7_3 := blk_frozen BK250.out 3; have hfz7_4 := blk_frozen BK250.out 4; have hfz7_5 := blk_frozen BK250.out 5; have hfz7_6 := blk_frozen BK250.out 6))
       have n0_ : Aside0 ((((((((w6.setCell ⟨gb250,0,none⟩ (.int .i64 ((rd_T88 l0 x7_1).f0))).setCell ⟨gb250,1,none⟩ (.int .i64 ((rd_T88 l0 x7_1).f1.f0))).setCell ⟨gb250,2,none⟩ (.int .i64 ((rd_T88 l0 x7_1).f1.f1))).setCell ⟨gb250,3,none⟩ (.int .i64 ((rd_T88 l0 x7_1).f1.f2))).setCell ⟨gb250,4,none⟩ (.int .i64 ((rd_T88 l0 x7_1).f1.f3))).setCell ⟨gb250,5,none⟩ (.int .i64 ((rd_T88 l0 x7_1).f1.f4))).setCell ⟨gb250,6,none⟩ (.int .i64 ((rd_T88 l0 x7_1).f1.f5))).heap[gb250]? = some (.cells #[.int .i64 ((rd_T88 l0 x7_1).f0),.int .i64 ((rd_T88 l0 x7_1).f1.f0),.int .i64 ((rd_T88 l0 x7_1).f1.f1),.int .i64 ((rd_T88 l0 x7_1).f1.f2),.int .i64 ((rd_T88 l0 x7_1).f1.f3),.int .i64 ((rd_T88 l0 x7_1).f1.f4),.int .i64 ((rd_T88 l0 x7_1).f1.f5)] 88 (0,0))) := ⟨by (with_reducible repeat (first | refine blk_drewN ?_ _ | refine blk_drew ?_ | refine blk_alloc ?_ _)); refine blk_put (cs := #[.int .i64 ((rd_T88 l0 x7_1).f0),.int .i64 ((rd_T88 l0 x7_1).f1.f0),.int .i64 ((rd_T88 l0 x7_1).f1.f1),.int .i64 ((rd_T88 l0 x7_1).f1.f2),.int .i64 ((rd_T88 l0 x7_1).f1.f3),.int .i64 ((rd_T88 l0 x7_1).f1.f4),.int .i64 0]) ?_ 6 _ rfl; (with_reducible repeat (first | refine blk_drewN ?_ _ | refine blk_drew ?_ | refine blk_alloc ?_ _)); refine blk_put (cs := #[.int .i64 ((rd_T88 l0 x7_1).f0),.int .i64 ((rd_T88 l0 x7_1).f1.f0),.int .i64 ((rd_T88 l0 x7_1).f1.f1),.int .i64 ((rd_T88 l0 x7_1).f1.f2),.int .i64 ((rd_T88 l0 x7_1).f1.f3),.int .i64 0,.int .i64 0]) ?_ 5 _ rfl; (with_reducible repeat (first | refine blk_drewN ?_ _ | refine blk_drew ?_ | refine blk_alloc ?_ _)); refine blk_put (cs := #[.int .i64 ((rd_T88 l0 x7_1).f0),.int .i64 ((rd_T88 l0 x7_1).f1.f0),.int .i64 ((rd_T88 l0 x7_1).f1.f1),.int .i64 ((rd_T88 l0 x7_1).f1.f2),.int .i64 0,.int .i64 0,.int .i64 0]) ?_ 4 _ rfl; (with_reducible repeat (first | refine blk_drewN ?_ _ | refine blk_drew ?_ | refine blk_alloc ?_ _)); refine blk_put (cs := #[.int .i64 ((rd_T88 l0 x7_1).f0),.int .i64 ((rd_T88 l0 x7_1).f1.f0),.int .i64 ((rd_T88 l0 x7_1).f1.f1),.int .i64 0,.int .i64 0,.int .i64 0,.int .i64 0]) ?_ 3 _ rfl; (with_reducible repeat (first | refine blk_drewN ?_ _ | refine blk_drew ?_ | refine blk_alloc ?_ _)); refine blk_put (cs := #[.int .i64 ((rd_T88 l0 x7_1).f0),.int .i64 ((rd_T88 l0 x7_1).f1.f0),.int .i64 0,.int .i64 0,.int .i64 0,.int .i64 0,.int .i64 0]) ?_ 2 _ rfl; (with_reducible repeat (first | refine blk_drewN ?_ _ | refine blk_drew ?_ | refine blk_alloc ?_ _)); refine blk_put (cs := #[.int .i64 ((rd_T88 l0 x7_1).f0),.int .i64 0,.int .i64 0,.int .i64 0,.int .i64 0,.int .i64 0,.int .i64 0]) ?_ 1 _ rfl; (with_reducible repeat (first | refine blk_drewN ?_ _ | refine blk_drew ?_ | refine blk_alloc ?_ _)); refine blk_put (cs := #[.int .i64 0,.int .i64 0,.int .i64 0,.int .i64 0,.int .i64 0,.int .i64 0,.int .i64 0]) ?_ 0 _ rfl; (with_reducible repeat (first | refine blk_drewN ?_ _ | refine blk_drew ?_ | refine blk_alloc ?_ _)); exact BK250.out⟩
       have n1_ : Aside0 (Below w.heap.size w (((((((w6.setCell ⟨gb250,0,none⟩ (.int .i64 ((rd_T88 l0 x7_1).f0))).setCell ⟨gb250,1,none⟩ (.int .i64 ((rd_T88 l0 x7_1).f1.f0))).setCell ⟨gb250,2,none⟩ (.int .i64 ((rd_T88 l0 x7_1).f1.f1))).setCell ⟨gb250,3,none⟩ (.int .i64 ((rd_T88 l0 x7_1).f1.f2))).setCell ⟨gb250,4,none⟩ (.int .i64 ((rd_T88 l0 x7_1).f1.f3))).setCell ⟨gb250,5,none⟩ (.int .i64 ((rd_T88 l0 x7_1).f1.f4))).setCell ⟨gb250,6,none⟩ (.int .i64 ((rd_T88 l0 x7_1).f1.f5)))) := ⟨by repeat (first | (with_reducible first | exact HB.out | apply below_alloc | apply pw_below_drewN | apply below_drew1 | refine below_set ?_ GE250.out) | exact HB.out)⟩
       (try clear BK250)
       (try clear HB)
       generalize (((((((w6.setCell ⟨gb250,0,none⟩ (.int .i64 ((rd_T88 l0 x7_1).f0))).setCell ⟨gb250,1,none⟩ (.int .i64 ((rd_T88 l0 x7_1).f1.f0))).setCell ⟨gb250,2,none⟩ (.int .i64 ((rd_T88 l0 x7_1).f1.f1))).setCell ⟨gb250,3,none⟩ (.int .i64 ((rd_T88 l0 x7_1).f1.f2))).setCell ⟨gb250,4,none⟩ (.int .i64 ((rd_T88 l0 x7_1).f1.f3))).setCell ⟨gb250,5,none⟩ (.int .i64 ((rd_T88 l0 x7_1).f1.f4))).setCell ⟨gb250,6,none⟩ (.int .i64 ((rd_T88 l0 x7_1).f1.f5))) = w8 at n0_ n1_ ⊢
       have BK250 := n0_
       have HB := n1_
       clear n0_ n1_
       have n0_ := Aside0.mk (blk_drew BK250.out)
       have n1_ := Aside0.mk (below_drew1 HB.out)
       clear BK250
       clear HB
       have BK250 := n0_
       have HB := n1_
       clear n0_ n1_
       refine start_ (n:=35) (S:=fun w' => True) (ds := []) #[F,F,F,F,F,F,F,F,F,F,F,F,F,F,F,F,F,F,F,F,F,F,F,F,F,F,F,F,F,F,F,F,F,F,F] (by kernel_rfl) rfl rfl trivial (fun hHeld => ?_); refine with_tabW impl_BucketsOK.tab4 impl_BucketsOK.bits4 (fun HT_ HW_ => ?_)
       generalize w8.drew = w9 at BK250 HB hHeld ⊢
       refine pure_ (i:=0) (N:=some 12) (v:=?_) (a':=?_) #[T,F,F,F,F,F,F,F,F,F,F,F,F,F,F,F,F,F,F,F,F,F,F,F,F,F,F,F,F,F,F,F,F,F,F] rfl rfl (any_of HT_.out (by kernel_rfl)) (fun _ _ _ h => h) (Or.inl ⟨by rfl,?_⟩) ?_ ?_
       rotate_left
       ·intro w'
        go_simp
        with_reducible rfl
       rotate_left
       ·simp only [Act.put,setIfInBounds_toArray,set_cons_zero,set_cons_succ,i64_w,i32_w]
        rfl
       refine pure_ (i:=1) (N:=some 13) (v:=?_) (a':=?_) #[T,T,F,F,F,F,F,F,F,F,F,F,F,F,F,F,F,F,F,F,F,F,F,F,F,F,F,F,F,F,F,F,F,F,F] rfl rfl (any_of HT_.out (by kernel_rfl)) (fun _ _ _ h => h) (Or.inl ⟨by rfl,?_⟩) ?_ ?_
       rotate_left
       ·intro w'
        go_simp
        with_reducible rfl
       rotate_left
       ·simp only [Act.put,setIfInBounds_toArray,set_cons_zero,set_cons_succ,i64_w,i32_w]
        rfl
       refine pure_ (i:=2) (N:=some 14) (v:=?_) (a':=?_) #[T,T,T,F,F,F,F,F,F,F,F,F,F,F,F,F,F,F,F,F,F,F,F,F,F,F,F,F,F,F,F,F,F,F,F] rfl rfl (any_of HT_.out (by kernel_rfl)) (fun _ _ _ h => h) (Or.inl ⟨by rfl,?_⟩) ?_ ?_
       rotate_left
       ·intro w'
        go_simp
        with_reducible rfl
       rotate_left
       ·simp only [Act.put,setIfInBounds_toArray,set_cons_zero,set_cons_succ,i64_w,i32_w]
        rfl
       refine pure_ (i:=3) (N:=some 15) (v:=undef) (a':=?_) #[T,T,T,T,F,F,F,F,F,F,F,F,F,F,F,F,F,F,F,F,F,F,F,F,F,F,F,F,F,F,F,F,F,F,F] rfl rfl (any_of HT_.out (by kernel_rfl)) (fun _ _ _ h => h) (Or.inr ⟨by rfl,rfl⟩) ?_ ?_
       rotate_left
       ·simp only [Act.put,setIfInBounds_toArray,set_cons_zero,set_cons_succ,i64_w,i32_w]
        rfl
       refine pure_ (i:=4) (N:=some 16) (v:=undef) (a':=?_) #[T,T,T,T,T,F,F,F,F,F,F,F,F,F,F,F,F,F,F,F,F,F,F,F,F,F,F,F,F,F,F,F,F,F,F] rfl rfl (any_of HT_.out (by kernel_rfl)) (fun _ _ _ h => h) (Or.inr ⟨by rfl,rfl⟩) ?_ ?_
       rotate_left
       ·simp only [Act.put,setIfInBounds_toArray,set_cons_zero,set_cons_succ,i64_w,i32_w]
        rfl
       refine pure_ (i:=5) (N:=some 17) (v:=undef) (a':=?_) #[T,T,T,T,T,T,F,F,F,F,F,F,F,F,F,F,F,F,F,F,F,F,F,F,F,F,F,F,F,F,F,F,F,F,F] rfl rfl (any_of HT_.out (by kernel_rfl)) (fun _ _ _ h => h) (Or.inr ⟨by rfl,rfl⟩) ?_ ?_
       rotate_left
       ·simp only [Act.put,setIfInBounds_toArray,set_cons_zero,set_cons_succ,i64_w,i32_w]
        rfl
       refine pure_ (i:=6) (N:=some 18) (v:=undef) (a':=?_) #[T,T,T,T,T,T,T,F,F,F,F,F,F,F,F,F,F,F,F,F,F,F,F,F,F,F,F,F,F,F,F,F,F,F,F] rfl rfl (any_of HT_.out (by kernel_rfl)) (fun _ _ _ h => h) (Or.inr ⟨by rfl,rfl⟩) ?_ ?_
       rotate_left
       ·simp only [Act.put,setIfInBounds_toArray,set_cons_zero,set_cons_succ,i64_w,i32_w]
        rfl
       refine pure_ (i:=7) (N:=some 19) (v:=?_) (a':=?_) #[T,T,T,T,T,T,T,T,F,F,F,F,F,F,F,F,F,F,F,F,F,F,F,F,F,F,F,F,F,F,F,F,F,F,F] rfl rfl (any_of HT_.out (by kernel_rfl)) (fun _ _ _ h => h) (Or.inl ⟨by rfl,?_⟩) ?_ ?_
       rotate_left
       ·intro w'
        go_simp
        with_reducible rfl
       rotate_left
       ·simp only [Act.put,setIfInBounds_toArray,set_cons_zero,set_cons_succ,i64_w,i32_w]
        rfl
       refine pure_ (i:=8) (N:=some 20) (v:=?_) (a':=?_) #[T,T,T,T,T,T,T,T,T,F,F,F,F,F,F,F,F,F,F,F,F,F,F,F,F,F,F,F,F,F,F,F,F,F,F] rfl rfl (any_of HT_.out (by kernel_rfl)) (fun _ _ _ h => h) (Or.inl ⟨by rfl,?_⟩) ?_ ?_
       rotate_left
       ·intro w'
        go_simp
        with_reducible rfl
       rotate_left
       ·simp only [Act.put,setIfInBounds_toArray,set_cons_zero,set_cons_succ,i64_w,i32_w]
        rfl
       refine pure_ (i:=9) (N:=some 21) (v:=undef) (a':=?_) #[T,T,T,T,T,T,T,T,T,T,F,F,F,F,F,F,F,F,F,F,F,F,F,F,F,F,F,F,F,F,F,F,F,F,F] rfl rfl (any_of HT_.out (by kernel_rfl)) (fun _ _ _ h => h) (Or.inr ⟨by rfl,rfl⟩) ?_ ?_
       rotate_left
       ·simp only [Act.put,setIfInBounds_toArray,set_cons_zero,set_cons_succ,i64_w,i32_w]
        rfl
       refine pure_ (i:=10) (N:=some 22) (v:=undef) (a':=?_) #[T,T,T,T,T,T,T,T,T,T,T,F,F,F,F,F,F,F,F,F,F,F,F,F,F,F,F,F,F,F,F,F,F,F,F] rfl rfl (any_of HT_.out (by kernel_rfl)) (fun _ _ _ h => h) (Or.inr ⟨by rfl,rfl⟩) ?_ ?_
       rotate_left
       ·simp only [Act.put,setIfInBounds_toArray,set_cons_zero,set_cons_succ,i64_w,i32_w]
        rfl
       refine pure_ (i:=11) (N:=some 23) (v:=undef) (a':=?_) #[T,T,T,T,T,T,T,T,T,T,T,T,F,F,F,F,F,F,F,F,F,F,F,F,F,F,F,F,F,F,F,F,F,F,F] rfl rfl (any_of HT_.out (by kernel_rfl)) (fun _ _ _ h => h) (Or.inr ⟨by rfl,rfl⟩) ?_ ?_
       rotate_left
       ·simp only [Act.put,setIfInBounds_toArray,set_cons_zero,set_cons_succ,i64_w,i32_w]
        rfl
       refine pure_ (i:=12) (N:=some 24) (v:=undef) (a':=?_) #[T,T,T,T,T,T,T,T,T,T,T,T,T,F,F,F,F,F,F,F,F,F,F,F,F,F,F,F,F,F,F,F,F,F,F] rfl rfl (any_of HT_.out (by kernel_rfl)) (fun _ _ _ h => h) (Or.inr ⟨by rfl,rfl⟩) ?_ ?_
       rotate_left
       ·simp only [Act.put,setIfInBounds_toArray,set_cons_zero,set_cons_succ,i64_w,i32_w]
        rfl
       refine pure_ (i:=13) (N:=some 25) (v:=?_) (a':=?_) #[T,T,T,T,T,T,T,T,T,T,T,T,T,T,F,F,F,F,F,F,F,F,F,F,F,F,F,F,F,F,F,F,F,F,F] rfl rfl (any_of HT_.out (by kernel_rfl)) (fun _ _ _ h => h) (Or.inl ⟨by rfl,?_⟩) ?_ ?_
       rotate_left
       ·intro w'
        go_simp
        with_reducible rfl
       rotate_left
       ·simp only [Act.put,setIfInBounds_toArray,set_cons_zero,set_cons_succ,i64_w,i32_w]
        rfl
       refine pure_ (i:=14) (N:=some 26) (v:=?_) (a':=?_) #[T,T,T,T,T,T,T,T,T,T,T,T,T,T,T,F,F,F,F,F,F,F,F,F,F,F,F,F,F,F,F,F,F,F,F] rfl rfl (any_of HT_.out (by kernel_rfl)) (fun _ _ _ h => h) (Or.inl ⟨by rfl,?_⟩) ?_ ?_
       rotate_left
       ·intro w'
        go_simp
        with_reducible rfl
       rotate_left
       ·simp only [Act.put,setIfInBounds_toArray,set_cons_zero,set_cons_succ,i64_w,i32_w]
        rfl
       refine pure_ (i:=15) (N:=some 27) (v:=undef) (a':=?_) #[T,T,T,T,T,T,T,T,T,T,T,T,T,T,T,T,F,F,F,F,F,F,F,F,F,F,F,F,F,F,F,F,F,F,F] rfl rfl (any_of HT_.out (by kernel_rfl)) (fun _ _ _ h => h) (Or.inr ⟨by rfl,rfl⟩) ?_ ?_
       rotate_left
       ·simp only [Act.put,setIfInBounds_toArray,set_cons_zero,set_cons_succ,i64_w,i32_w]
        rfl
       refine pure_ (i:=16) (N:=some 28) (v:=undef) (a':=?_) #[T,T,T,T,T,T,T,T,T,T,T,T,T,T,T,T,T,F,F,F,F,F,F,F,F,F,F,F,F,F,F,F,F,F,F] rfl rfl (any_of HT_.out (by kernel_rfl)) (fun _ _ _ h => h) (Or.inr ⟨by rfl,rfl⟩) ?_ ?_
       rotate_left
       ·simp only [Act.put,setIfInBounds_toArray,set_cons_zero,set_cons_succ,i64_w,i32_w]
        rfl
       refine pure_ (i:=17) (N:=some 29) (v:=undef) (a':=?_) #[T,T,T,T,T,T,T,T,T,T,T,T,T,T,T,T,T,T,F,F,F,F,F,F,F,F,F,F,F,F,F,F,F,F,F] rfl rfl (any_of HT_.out (by kernel_rfl)) (fun _ _ _ h => h) (Or.inr ⟨by rfl,rfl⟩) ?_ ?_
       rotate_left
       ·simp only [Act.put,setIfInBounds_toArray,set_cons_zero,set_cons_succ,i64_w,i32_w]
        rfl
       refine pure_ (i:=18) (N:=some 30) (v:=undef) (a':=?_) #[T,T,T,T,T,T,T,T,T,T,T,T,T,T,T,T,T,T,T,F,F,F,F,F,F,F,F,F,F,F,F,F,F,F,F] rfl rfl (any_of HT_.out (by kernel_rfl)) (fun _ _ _ h => h) (Or.inr ⟨by rfl,rfl⟩) ?_ ?_
       rotate_left
       ·simp only [Act.put,setIfInBounds_toArray,set_cons_zero,set_cons_succ,i64_w,i32_w]
        rfl
       refine pure_ (i:=19) (N:=some 31) (v:=?_) (a':=?_) #[T,T,T,T,T,T,T,T,T,T,T,T,T,T,T,T,T,T,T,T,F,F,F,F,F,F,F,F,F,F,F,F,F,F,F] rfl rfl (any_of HT_.out (by kernel_rfl)) (fun _ _ _ h => h) (Or.inl ⟨by rfl,?_⟩) ?_ ?_
       rotate_left
       ·intro w'
        go_simp
        with_reducible rfl
       rotate_left
       ·simp only [Act.put,setIfInBounds_toArray,set_cons_zero,set_cons_succ,i64_w,i32_w]
        rfl
       refine pure_ (i:=20) (N:=some 32) (v:=?_) (a':=?_) #[T,T,T,T,T,T,T,T,T,T,T,T,T,T,T,T,T,T,T,T,T,F,F,F,F,F,F,F,F,F,F,F,F,F,F] rfl rfl (any_of HT_.out (by kernel_rfl)) (fun _ _ _ h => h) (Or.inl ⟨by rfl,?_⟩) ?_ ?_
       rotate_left
       ·intro w'
        go_simp
        with_reducible rfl
       rotate_left
       ·simp only [Act.put,setIfInBounds_toArray,set_cons_zero,set_cons_succ,i64_w,i32_w]
        rfl
       refine pure_ (i:=21) (N:=some 33) (v:=undef) (a':=?_) #[T,T,T,T,T,T,T,T,T,T,T,T,T,T,T,T,T,T,T,T,T,T,F,F,F,F,F,F,F,F,F,F,F,F,F] rfl rfl (any_of HT_.out (by kernel_rfl)) (fun _ _ _ h => h) (Or.inr ⟨by rfl,rfl⟩) ?_ ?_
       rotate_left
       ·simp only [Act.put,setIfInBounds_toArray,set_cons_zero,set_cons_succ,i64_w,i32_w]
        rfl
       refine pure_ (i:=22) (N:=some 34) (v:=undef) (a':=?_) #[T,T,T,T,T,T,T,T,T,T,T,T,T,T,T,T,T,T,T,T,T,T,T,F,F,F,F,F,F,F,F,F,F,F,F] rfl rfl (any_of HT_.out (by kernel_rfl)) (fun _ _ _ h => h) (Or.inr ⟨by rfl,rfl⟩) ?_ ?_
       rotate_left
       ·simp only [Act.put,setIfInBounds_toArray,set_cons_zero,set_cons_succ,i64_w,i32_w]
        rfl
       refine pure_ (i:=23) (N:=some 35) (v:=undef) (a':=?_) #[T,T,T,T,T,T,T,T,T,T,T,T,T,T,T,T,T,T,T,T,T,T,T,T,F,F,F,F,F,F,F,F,F,F,F] rfl rfl (any_of HT_.out (by kernel_rfl)) (fun _ _ _ h => h) (Or.inr ⟨by rfl,rfl⟩) ?_ ?_
       rotate_left
       ·simp only [Act.put,setIfInBounds_toArray,set_cons_zero,set_cons_succ,i64_w,i32_w]
        rfl
       refine pure_ (i:=24) (N:=some 36) (v:=undef) (a':=?_) #[T,T,T,T,T,T,T,T,T,T,T,T,T,T,T,T,T,T,T,T,T,T,T,T,T,F,F,F,F,F,F,F,F,F,F] rfl rfl (any_of HT_.out (by kernel_rfl)) (fun _ _ _ h => h) (Or.inr ⟨by rfl,rfl⟩) ?_ ?_
       rotate_left
       ·simp only [Act.put,setIfInBounds_toArray,set_cons_zero,set_cons_succ,i64_w,i32_w]
        rfl
       refine pure_ (i:=25) (N:=some 37) (v:=undef) (a':=?_) #[T,T,T,T,T,T,T,T,T,T,T,T,T,T,T,T,T,T,T,T,T,T,T,T,T,T,F,F,F,F,F,F,F,F,F] rfl rfl (any_of HT_.out (by kernel_rfl)) (fun _ _ _ h => h) (Or.inr ⟨by rfl,rfl⟩) ?_ ?_
       rotate_left
       ·simp only [Act.put,setIfInBounds_toArray,set_cons_zero,set_cons_succ,i64_w,i32_w]
        rfl
       refine pure_ (i:=26) (N:=some 38) (v:=undef) (a':=?_) #[T,T,T,T,T,T,T,T,T,T,T,T,T,T,T,T,T,T,T,T,T,T,T,T,T,T,T,F,F,F,F,F,F,F,F] rfl rfl (any_of HT_.out (by kernel_rfl)) (fun _ _ _ h => h) (Or.inr ⟨by rfl,rfl⟩) ?_ ?_
       rotate_left
       ·simp only [Act.put,setIfInBounds_toArray,set_cons_zero,set_cons_succ,i64_w,i32_w]
        rfl
       refine pure_ (i:=27) (N:=some 39) (v:=undef) (a':=?_) #[T,T,T,T,T,T,T,T,T,T,T,T,T,T,T,T,T,T,T,T,T,T,T,T,T,T,T,T,F,F,F,F,F,F,F] rfl rfl (any_of HT_.out (by kernel_rfl)) (fun _ _ _ h => h) (Or.inr ⟨by rfl,rfl⟩) ?_ ?_
       rotate_left
       ·simp only [Act.put,setIfInBounds_toArray,set_cons_zero,set_cons_succ,i64_w,i32_w]
        rfl
       refine pure_ (i:=28) (N:=some 40) (v:=undef) (a':=?_) #[T,T,T,T,T,T,T,T,T,T,T,T,T,T,T,T,T,T,T,T,T,T,T,T,T,T,T,T,T,F,F,F,F,F,F] rfl rfl (any_of HT_.out (by kernel_rfl)) (fun _ _ _ h => h) (Or.inr ⟨by rfl,rfl⟩) ?_ ?_
       rotate_left
       ·simp only [Act.put,setIfInBounds_toArray,set_cons_zero,set_cons_succ,i64_w,i32_w]
        rfl
       refine pure_ (i:=29) (N:=some 41) (v:=undef) (a':=?_) #[T,T,T,T,T,T,T,T,T,T,T,T,T,T,T,T,T,T,T,T,T,T,T,T,T,T,T,T,T,T,F,F,F,F,F] rfl rfl (any_of HT_.out (by kernel_rfl)) (fun _ _ _ h => h) (Or.inr ⟨by rfl,rfl⟩) ?_ ?_
       rotate_left
       ·simp only [Act.put,setIfInBounds_toArray,set_cons_zero,set_cons_succ,i64_w,i32_w]
        rfl
       refine pure_ (i:=30) (N:=some 42) (v:=undef) (a':=?_) #[T,T,T,T,T,T,T,T,T,T,T,T,T,T,T,T,T,T,T,T,T,T,T,T,T,T,T,T,T,T,T,F,F,F,F] rfl rfl (any_of HT_.out (by kernel_rfl)) (fun _ _ _ h => h) (Or.inr ⟨by rfl,rfl⟩) ?_ ?_
       rotate_left
       ·simp only [Act.put,setIfInBounds_toArray,set_cons_zero,set_cons_succ,i64_w,i32_w]
        rfl
       refine pure_ (i:=31) (N:=some 43) (v:=undef) (a':=?_) #[T,T,T,T,T,T,T,T,T,T,T,T,T,T,T,T,T,T,T,T,T,T,T,T,T,T,T,T,T,T,T,T,F,F,F] rfl rfl (any_of HT_.out (by kernel_rfl)) (fun _ _ _ h => h) (Or.inr ⟨by rfl,rfl⟩) ?_ ?_
       rotate_left
       ·simp only [Act.put,setIfInBounds_toArray,set_cons_zero,set_cons_succ,i64_w,i32_w]
        rfl
       refine pure_ (i:=32) (N:=some 44) (v:=undef) (a':=?_) #[T,T,T,T,T,T,T,T,T,T,T,T,T,T,T,T,T,T,T,T,T,T,T,T,T,T,T,T,T,T,T,T,T,F,F] rfl rfl (any_of HT_.out (by kernel_rfl)) (fun _ _ _ h => h) (Or.inr ⟨by rfl,rfl⟩) ?_ ?_
       rotate_left
       ·simp only [Act.put,setIfInBounds_toArray,set_cons_zero,set_cons_succ,i64_w,i32_w]
        rfl
       refine pure_ (i:=33) (N:=some 45) (v:=undef) (a':=?_) #[T,T,T,T,T,T,T,T,T,T,T,T,T,T,T,T,T,T,T,T,T,T,T,T,T,T,T,T,T,T,T,T,T,T,F] rfl rfl (any_of HT_.out (by kernel_rfl)) (fun _ _ _ h => h) (Or.inr ⟨by rfl,rfl⟩) ?_ ?_
       rotate_left
       ·simp only [Act.put,setIfInBounds_toArray,set_cons_zero,set_cons_succ,i64_w,i32_w]
        rfl
       refine pure_ (i:=34) (N:=some 46) (v:=?_) (a':=?_) #[T,T,T,T,T,T,T,T,T,T,T,T,T,T,T,T,T,T,T,T,T,T,T,T,T,T,T,T,T,T,T,T,T,T,T] rfl rfl (any_of HT_.out (by kernel_rfl)) (fun _ _ _ h => h) (Or.inl ⟨by rfl,?_⟩) ?_ ?_
       rotate_left
       ·intro w'
        go_simp
        with_reducible rfl
       rotate_left
       ·simp only [Act.put,setIfInBounds_toArray,set_cons_zero,set_cons_succ,i64_w,i32_w]
        rfl
       refine done_ (done_of HT_.out (by kernel_rfl)) ?_
       try go_wp2
       go_ret
       exact ⟨by first | rfl | (simp only [i64_w,i32_w] <;> rfl) | (simp [errW_none,errW_some] <;> rfl) | (simp [*,errW_none,errW_some] <;> rfl),by repeat (first | (with_reducible first | exact HB.out | apply below_alloc | apply pw_below_drewN | apply below_drew1 | refine below_set ?_ GE250.out) | exact HB.out)⟩
      ·rw [if_neg c5] at H
       have c5b0 : (x7_1 == 8) = false := beq_eq_false_iff_ne.mpr c5
       have c5b1 : (x7_1 != 8) = true := bne_iff_ne.mpr c5
       replace H := Option.bind_eq_some_iff.mp H
       obtain ⟨t251,A100,H⟩ := H
       replace H : (if t251 = true then ((impl_AggOK.f ((rd_T88 l0 x7_1).f1.f0) ((rd_T88 l0 x7_1).f1.f1) ((rd_T88 l0 x7_1).f1.f2) ((rd_T88 l0 x7_1).f1.f3) ((rd_T88 l0 x7_1).f1.f4) ((rd_T88 l0 x7_1).f1.f5)).bind fun t252 => (if t252 = true then (if ((rd_T88 l0 x7_1).f1.f0) = 0 then (some false) else (if x7_1 > 0 then (if 0 ≤ (wrap64 (x7_1 - 1)) then (if (wrap64 (x7_1 - 1)) < (l0.length : Int) then (if ((rd_T88 l0 x7_1).f0) ≤ ((rd_T88 l0 (wrap64 (x7_1 - 1))).f0) then (some false) else (impl_BucketsOK.l0 k1 l0 l0 (l0.length : Int) (wrap64 (x7_1 + 1)))) else (none)) else (none)) else (impl_BucketsOK.l0 k1 l0 l0 (l0.length : Int) (wrap64 (x7_1 + 1))))) else (some false))) else (some false)) = some r := H
       have A10 := Aside0.mk A100
       clear A100
       by_cases c11 : t251 = true
       ·subst c11
        have H1 : ((impl_AggOK.f ((rd_T88 l0 x7_1).f1.f0) ((rd_T88 l0 x7_1).f1.f1) ((rd_T88 l0 x7_1).f1.f2) ((rd_T88 l0 x7_1).f1.f3) ((rd_T88 l0 x7_1).f1.f4) ((rd_T88 l0 x7_1).f1.f5)).bind fun t252 => (if t252 = true then (if ((rd_T88 l0 x7_1).f1.f0) = 0 then (some false) else (if x7_1 > 0 then (if 0 ≤ (wrap64 (x7_1 - 1)) then (if (wrap64 (x7_1 - 1)) < (l0.length : Int) then (if ((rd_T88 l0 x7_1).f0) ≤ ((rd_T88 l0 (wrap64 (x7_1 - 1))).f0) then (some false) else (impl_BucketsOK.l0 k1 l0 l0 (l0.length : Int) (wrap64 (x7_1 + 1)))) else (none)) else (none)) else (impl_BucketsOK.l0 k1 l0 l0 (l0.length : Int) (wrap64 (x7_1 + 1))))) else (some false))) = some r := by rw [if_pos rfl] at H; exact H
        clear H
        have H := H1
        clear H1
        replace H := Option.bind_eq_some_iff.mp H
        obtain ⟨t252,A120,H⟩ := H
        replace H : (if t252 = true then (if ((rd_T88 l0 x7_1).f1.f0) = 0 then (some false) else (if x7_1 > 0 then (if 0 ≤ (wrap64 (x7_1 - 1)) then (if (wrap64 (x7_1 - 1)) < (l0.length : Int) then (if ((rd_T88 l0 x7_1).f0) ≤ ((rd_T88 l0 (wrap64 (x7_1 - 1))).f0) then (some false) else (impl_BucketsOK.l0 k1 l0 l0 (l0.length : Int) (wrap64 (x7_1 + 1)))) else (none)) else (none)) else (impl_BucketsOK.l0 k1 l0 l0 (l0.length : Int) (wrap64 (x7_1 + 1))))) else (some false)) = some r := H
        have A12 := Aside0.mk A120
        clear A120
        by_cases c13 : t252 = true
        ·subst c13
         have H1 : (if ((rd_T88 l0 x7_1).f1.f0) = 0 then (some false) else (if x7_1 > 0 then (if 0 ≤ (wrap64 (x7_1 - 1)) then (if (wrap64 (x7_1 - 1)) < (l0.length : Int) then (if ((rd_T88 l0 x7_1).f0) ≤ ((rd_T88 l0 (wrap64 (x7_1 - 1))).f0) then (some false) else (impl_BucketsOK.l0 k1 l0 l0 (l0.length : Int) (wrap64 (x7_1 + 1)))) else (none)) else (none)) else (impl_BucketsOK.l0 k1 l0 l0 (l0.length : Int) (wrap64 (x7_1 + 1))))) = some r := by rw [if_pos rfl] at H; exact H
         clear H
         have H := H1
         clear H1
         by_cases c14 : ((rd_T88 l0 x7_1).f1.f0) = 0
         ·rw [if_pos c14] at H
          have c14b0 : (((rd_T88 l0 x7_1).f1.f0) == 0) = true := beq_iff_eq.mpr c14
          have c14b1 : (((rd_T88 l0 x7_1).f1.f0) != 0) = false := bne_eq_false_iff_eq.mpr c14
          clear c14
          obtain rfl := Option.some.inj H
          have p249 : 0 ≤ (x7_1 : Int) := of_decide_eq_true (by first | (with_reducible assumption) | assumption)
          have q249 : x7_1 < (l0.length : Int) := of_decide_eq_true (by first | (with_reducible assumption) | assumption)
          obtain ⟨ad249,e249,hx249_0,hx249_1,hx249_2,hx249_3,hx249_4,hx249_5,hx249_6⟩ := at_T88 HR0.out x7_1 p249 q249
          cases e249
          replace hx249_0 := (HB.out.cell (bl_ w _ hx249_0)).trans hx249_0
          replace hx249_1 := (HB.out.cell (bl_ w _ hx249_1)).trans hx249_1
          replace hx249_2 := (HB.out.cell (bl_ w _ hx249_2)).trans hx249_2
          replace hx249_3 := (HB.out.cell (bl_ w _ hx249_3)).trans hx249_3
          replace hx249_4 := (HB.out.cell (bl_ w _ hx249_4)).trans hx249_4
          replace hx249_5 := (HB.out.cell (bl_ w _ hx249_5)).trans hx249_5
          replace hx249_6 := (HB.out.cell (bl_ w _ hx249_6)).trans hx249_6
          replace p249 := eq_true p249
          replace q249 := eq_true q249
          try go_wp2_with (first | ((with_reducible refine gate_dst (N:=4) rfl ?_); refine box_event ?hg (N:=4) ?hd (cs := #[.int .i64 0,.int .i64 0,.int .i64 0,.int .i64 0,.int .i64 0,.int .i64 0,.int .i64 0]) (t:=88) ?hr ?_; (case hd => rfl); (case hg => rfl); (case hr => first | (go_simp; done) | (go_simp; rfl)); intro gb250 hg w15 hbox hb; have n0_ := Aside0.mk (below_step (by repeat (first | (with_reducible first | exact HB.out | apply below_alloc | apply pw_below_drewN | apply below_drew1) | exact HB.out)) hb); have n1_ := Aside0.mk (hbox); have n2_ := Aside0.mk ((by rw [hg]; exact (below_size (by repeat (first | (with_reducible first | exact HB.out | apply below_alloc | apply pw_below_drewN | apply below_drew1) | exact HB.out))) : w.heap.size ≤ gb250)); have n3_ := Aside0.mk ((by rw [hg]; exact (below_size (by repeat (first | (with_reducible first | exact HB.out | apply below_alloc | apply pw_below_drewN | apply below_drew1) | exact HB.out))) : w.heap.size ≤ gb250)); clear HB; have HB := n0_; have BK250 := n1_; have GW250 := n2_; have GE250 := n3_; clear n0_ n1_ n2_ n3_; clear hb hbox hg; have hcz16_0 : w15.cell? ⟨gb250,0,none⟩ = some (.int .i64 0) := (blk_cell BK250.out 0).trans rfl; have hcz16_1 : w15.cell? ⟨gb250,1,none⟩ = some (.int .i64 0) := (blk_cell BK250.out 1).trans rfl; have hcz16_2 : w15.cell? ⟨gb250,2,none⟩ = some (.int .i64 0) := (blk_cell BK250.out 2).trans rfl; have hcz16_3 : w15.cell? ⟨gb250,3,none⟩ = some (.int .i64 0) := (blk_cell BK250.out 3).trans rfl; have hcz16_4 : w15.cell? ⟨gb250,4,none⟩ = some (.int .i64 0) := (blk_cell BK250.out 4).trans rfl; have hcz16_5 : w15.cell? ⟨gb250,5,none⟩ = some (.int .i64 0) := (blk_cell BK250.out 5).trans rfl; have hcz16_6 : w15.cell? ⟨gb250,6,none⟩ = some (.int .i64 0) := (blk_cell BK250.out 6).trans rfl; have hfz16_0 := blk_frozen BK250.out 0; have hfz16_1 := blk_frozen BK250.out 1; have hfz16_2 := blk_frozen BK250.out 2; have hfz16_3 := blk_frozen BK250.out 3; have hfz16_4 := blk_frozen BK250.out 4; have hfz16_5 := blk_frozen BK250.out 5; have hfz16_6 := blk_frozen BK250.out 6))
          have n0_ : Aside0 ((((((((w15.setCell ⟨gb250,0,none⟩ (.int .i64 ((rd_T88 l0 x7_1).f0))).setCell ⟨gb250,1,none⟩ (.int .i64 ((rd_T88 l0 x7_1).f1.f0))).setCell ⟨gb250,2,none⟩ (.int .i64 ((rd_T88 l0 x7_1).f1.f1))).setCell ⟨gb250,3,none⟩ (.int .i64 ((rd_T88 l0 x7_1).f1.f2))).setCell ⟨gb250,4,none⟩ (.int .i64 ((rd_T88 l0 x7_1).f1.f3))).setCell ⟨gb250,5,none⟩ (.int .i64 ((rd_T88 l0 x7_1).f1.f4))).setCell ⟨gb250,6,none⟩ (.int .i64 ((rd_T88 l0 x7_1).f1.f5))).heap[gb250]? = some (.cells #[.int .i64 ((rd_T88 l0 x7_1).f0),.int .i64 ((rd_T88 l0 x7_1).f1.f0),.int .i64 ((rd_T88 l0 x7_1).f1.f1),.int .i64 ((rd_T88 l0 x7_1).f1.f2),.int .i64 ((rd_T88 l0 x7_1).f1.f3),.int .i64 ((rd_T88 l0 x7_1).f1.f4),.int .i64 ((rd_T88 l0 x7_1).f1.f5)] 88 (0,0))) := ⟨by (with_reducible repeat (first | refine blk_drewN ?_ _ | refine blk_drew ?_ | refine blk_alloc ?_ _)); refine blk_put (cs := #[.int .i64 ((rd_T88 l0 x7_1).f0),.int .i64 ((rd_T88 l0 x7_1).f1.f0),.int .i64 ((rd_T88 l0 x7_1).f1.f1),.int .i64 ((rd_T88 l0 x7_1).f1.f2),.int .i64 ((rd_T88 l0 x7_1).f1.f3),.int .i64 ((rd_T88 l0 x7_1).f1.f4),.int .i64 0]) ?_ 6 _ rfl; (with_reducible repeat (first | refine blk_drewN ?_ _ | refine blk_drew ?_ | refine blk_alloc ?_ _)); refine blk_put (cs := #[.int .i64 ((rd_T88 l0 x7_1).f0),.int .i64 ((rd_T88 l0 x7_1).f1.f0),.int .i64 ((rd_T88 l0 x7_1).f1.f1),.int .i64 ((rd_T88 l0 x7_1).f1.f2),.int .i64 ((rd_T88 l0 x7_1).f1.f3),.int .i64 0,.int .i64 0]) ?_ 5 _ rfl; (with_reducible repeat (first | refine blk_drewN ?_ _ | refine blk_drew ?_ | refine blk_alloc ?_ _)); refine blk_put (cs := #[.int .i64 ((rd_T88 l0 x7_1).f0),.int .i64 ((rd_T88 l0 x7_1).f1.f0),.int .i64 ((rd_T88 l0 x7_1).f1.f1),.int .i64 ((rd_T88 l0 x7_1).f1.f2),.int .i64 0,.int .i64 0,.int .i64 0]) ?_ 4 _ rfl; (with_reducible repeat (first | refine blk_drewN ?_ _ | refine blk_drew ?_ | refine blk_alloc ?_ _)); refine blk_put (cs := #[.int .i64 ((rd_T88 l0 x7_1).f0),.int .i64 ((rd_T88 l0 x7_1).f1.f0),.int .i64 ((rd_T88 l0 x7_1).f1.f1),.int .i64 0,.int .i64 0,.int .i64 0,.int .i64 0]) ?_ 3 _ rfl; (with_reducible repeat (first | refine blk_drewN ?_ _ | refine blk_drew ?_ | refine blk_alloc ?_ _)); refine blk_put (cs := #[.int .i64 ((rd_T88 l0 x7_1).f0),.int .i64 ((rd_T88 l0 x7_1).f1.f0),.int .i64 0,.int .i64 0,.int .i64 0,.int .i64 0,.int .i64 0]) ?_ 2 _ rfl; (with_reducible repeat (first | refine blk_drewN ?_ _ | refine blk_drew ?_ | refine blk_alloc ?_ _)); refine blk_put (cs := #[.int .i64 ((rd_T88 l0 x7_1).f0),.int .i64 0,.int .i64 0,.int .i64 0,.int .i64 0,.int .i64 0,.int .i64 0]) ?_ 1 _ rfl; (with_reducible repeat (first | refine blk_drewN ?_ _ | refine blk_drew ?_ | refine blk_alloc ?_ _)); refine blk_put (cs := #[.int .i64 0,.int .i64 0,.int .i64 0,.int .i64 0,.int .i64 0,.int .i64 0,.int .i64 0]) ?_ 0 _ rfl; (with_reducible repeat (first | refine blk_drewN ?_ _ | refine blk_drew ?_ | refine blk_alloc ?_ _)); exact BK250.out⟩
          have n1_ : Aside0 (Below w.heap.size w (((((((w15.setCell ⟨gb250,0,none⟩ (.int .i64 ((rd_T88 l0 x7_1).f0))).setCell ⟨gb250,1,none⟩ (.int .i64 ((rd_T88 l0 x7_1).f1.f0))).setCell ⟨gb250,2,none⟩ (.int .i64 ((rd_T88 l0 x7_1).f1.f1))).setCell ⟨gb250,3,none⟩ (.int .i64 ((rd_T88 l0 x7_1).f1.f2))).setCell ⟨gb250,4,none⟩ (.int .i64 ((rd_T88 l0 x7_1).f1.f3))).setCell ⟨gb250,5,none⟩ (.int .i64 ((rd_T88 l0 x7_1).f1.f4))).setCell ⟨gb250,6,none⟩ (.int .i64 ((rd_T88 l0 x7_1).f1.f5)))) := ⟨by repeat (first | (with_reducible first | exact HB.out | apply below_alloc | apply pw_below_drewN | apply below_drew1 | refine below_set ?_ GE250.out) | exact HB.out)⟩
          (try clear BK250)
          (try clear HB)
          generalize (((((((w15.setCell ⟨gb250,0,none⟩ (.int .i64 ((rd_T88 l0 x7_1).f0))).setCell ⟨gb250,1,none⟩ (.int .i64 ((rd_T88 l0 x7_1).f1.f0))).setCell ⟨gb250,2,none⟩ (.int .i64 ((rd_T88 l0 x7_1).f1.f1))).setCell ⟨gb250,3,none⟩ (.int .i64 ((rd_T88 l0 x7_1).f1.f2))).setCell ⟨gb250,4,none⟩ (.int .i64 ((rd_T88 l0 x7_1).f1.f3))).setCell ⟨gb250,5,none⟩ (.int .i64 ((rd_T88 l0 x7_1).f1.f4))).setCell ⟨gb250,6,none⟩ (.int .i64 ((rd_T88 l0 x7_1).f1.f5))) = w17 at n0_ n1_ ⊢
          have BK250 := n0_
          have HB := n1_
          clear n0_ n1_
          have n0_ := Aside0.mk (blk_drew BK250.out)
          have n1_ := Aside0.mk (below_drew1 HB.out)
          clear BK250
          clear HB
          have BK250 := n0_
          have HB := n1_
          clear n0_ n1_
          refine start_ (n:=35) (S:=fun w' => w'.cell? ⟨gb250,0,none⟩ = some (.int .i64 ((rd_T88 l0 x7_1).f0)) ∧ w'.cell? ⟨gb250,1,none⟩ = some (.int .i64 ((rd_T88 l0 x7_1).f1.f0)) ∧ w'.cell? ⟨gb250,2,none⟩ = some (.int .i64 ((rd_T88 l0 x7_1).f1.f1)) ∧ w'.cell? ⟨gb250,3,none⟩ = some (.int .i64 ((rd_T88 l0 x7_1).f1.f2)) ∧ w'.cell? ⟨gb250,4,none⟩ = some (.int .i64 ((rd_T88 l0 x7_1).f1.f3)) ∧ w'.cell? ⟨gb250,5,none⟩ = some (.int .i64 ((rd_T88 l0 x7_1).f1.f4)) ∧ w'.cell? ⟨gb250,6,none⟩ = some (.int .i64 ((rd_T88 l0 x7_1).f1.f5))) (ds := []) #[F,F,F,F,F,F,F,F,F,F,F,F,F,F,F,F,F,F,F,F,F,F,F,F,F,F,F,F,F,F,F,F,F,F,F] (by kernel_rfl) rfl rfl ⟨(blk_cell BK250.out 0).trans rfl,(blk_cell BK250.out 1).trans rfl,(blk_cell BK250.out 2).trans rfl,(blk_cell BK250.out 3).trans rfl,(blk_cell BK250.out 4).trans rfl,(blk_cell BK250.out 5).trans rfl,(blk_cell BK250.out 6).trans rfl⟩ (fun hHeld => ?_); refine with_tabW impl_BucketsOK.tab4 impl_BucketsOK.bits4 (fun HT_ HW_ => ?_)
          generalize w17.drew = w18 at BK250 HB hHeld ⊢
          refine pure_ (i:=0) (N:=some 12) (v:=?_) (a':=?_) #[T,F,F,F,F,F,F,F,F,F,F,F,F,F,F,F,F,F,F,F,F,F,F,F,F,F,F,F,F,F,F,F,F,F,F] rfl rfl (any_of HT_.out (by kernel_rfl)) (fun _ _ _ h => h) (Or.inl ⟨by rfl,?_⟩) ?_ ?_
          rotate_left
          ·intro w'
           go_simp
           with_reducible rfl
          rotate_left
          ·simp only [Act.put,setIfInBounds_toArray,set_cons_zero,set_cons_succ,i64_w,i32_w]
           rfl
          refine pure_ (i:=1) (N:=some 13) (v:=?_) (a':=?_) #[T,T,F,F,F,F,F,F,F,F,F,F,F,F,F,F,F,F,F,F,F,F,F,F,F,F,F,F,F,F,F,F,F,F,F] rfl rfl (any_of HT_.out (by kernel_rfl)) (fun _ _ _ h => h) (Or.inl ⟨by rfl,?_⟩) ?_ ?_
          rotate_left
          ·intro w'
           go_simp
           with_reducible rfl
          rotate_left
          ·simp only [Act.put,setIfInBounds_toArray,set_cons_zero,set_cons_succ,i64_w,i32_w]
           rfl
          refine pure_ (i:=2) (N:=some 14) (v:=?_) (a':=?_) #[T,T,T,F,F,F,F,F,F,F,F,F,F,F,F,F,F,F,F,F,F,F,F,F,F,F,F,F,F,F,F,F,F,F,F] rfl rfl (any_of HT_.out (by kernel_rfl)) (fun _ _ _ h => h) (Or.inl ⟨by rfl,?_⟩) ?_ ?_
          rotate_left
          ·intro w'
           go_simp
           with_reducible rfl
          rotate_left
          ·simp only [Act.put,setIfInBounds_toArray,set_cons_zero,set_cons_succ,i64_w,i32_w]
           rfl
          refine pure_ (i:=3) (N:=some 15) (v:=?_) (a':=?_) #[T,T,T,T,F,F,F,F,F,F,F,F,F,F,F,F,F,F,F,F,F,F,F,F,F,F,F,F,F,F,F,F,F,F,F] rfl rfl (any_of HT_.out (by kernel_rfl)) (fun _ _ _ h => h) (Or.inl ⟨by rfl,?_⟩) ?_ ?_
          rotate_left
          ·intro w'
           go_simp
           with_reducible rfl
          rotate_left
          ·simp only [Act.put,setIfInBounds_toArray,set_cons_zero,set_cons_succ,i64_w,i32_w]
           rfl
          refine take_ (i:=4) (N:=some 16) (v:=?_) (a':=?_) #[T,T,T,T,T,F,F,F,F,F,F,F,F,F,F,F,F,F,F,F,F,F,F,F,F,F,F,F,F,F,F,F,F,F,F] rfl rfl (take_ofW HT_.out HW_.out (by kernel_rfl)) (fun _ _ _ h => h) (Or.inl ⟨by rfl,?_⟩) hHeld ?_ ?_
          rotate_left
          ·rintro w' ⟨s0,s1,s2,s3,s4,s5,s6⟩
           go_simp
           with_reducible rfl
          rotate_left
          ·simp only [Act.put,setIfInBounds_toArray,set_cons_zero,set_cons_succ,i64_w,i32_w]
           rfl
          refine one_ (i:=5) (N:=some 17) #[T,T,T,T,T,T,F,F,F,F,F,F,F,F,F,F,F,F,F,F,F,F,F,F,F,F,F,F,F,F,F,F,F,F,F] rfl rfl (one_of HT_.out (by kernel_rfl)) (by decide) (fun K hK => ?_)
          refine goes_ Tryd.func89 (by kernel_rfl) rfl #[.int .i64 ((rd_T88 l0 x7_1).f0)] (by rfl) rfl rfl (by (try simp only [List.map_toArray,List.map_cons,List.map_nil]); first | done | rfl | (simp only [List.length_drop,List.length_take]; rfl)) ?_
          with_reducible refine (impl_isMoment.calls ((rd_T88 l0 x7_1).f0) true _ A10.out).mono ?_
          rintro e w' ⟨rfl,⟨nd,rfl⟩⟩
          refine ⟨_,rfl,?_⟩
          refine hK.out _ _ ⟨(blk_cell BK250.out 0).trans rfl,(blk_cell BK250.out 1).trans rfl,(blk_cell BK250.out 2).trans rfl,(blk_cell BK250.out 3).trans rfl,(blk_cell BK250.out 4).trans rfl,(blk_cell BK250.out 5).trans rfl,(blk_cell BK250.out 6).trans rfl⟩ (fun hHeld => ?_)
          clear hK K
          refine norm_ (a':=?_) ?_ ?_
          rotate_left
          ·show Act.put _ (some 17) _ = _
           simp only [Act.put,setIfInBounds_toArray,set_cons_zero,set_cons_succ,i64_w,i32_w]
           rfl
          refine pure_ (i:=6) (N:=some 18) (v:=?_) (a':=?_) #[T,T,T,T,T,T,T,F,F,F,F,F,F,F,F,F,F,F,F,F,F,F,F,F,F,F,F,F,F,F,F,F,F,F,F] rfl rfl (any_of HT_.out (by kernel_rfl)) (fun _ _ _ h => h) (Or.inl ⟨by rfl,?_⟩) ?_ ?_
          rotate_left
          ·intro w'
           go_simp
           with_reducible rfl
          rotate_left
          ·simp only [Act.put,setIfInBounds_toArray,set_cons_zero,set_cons_succ,i64_w,i32_w]
           rfl
          refine pure_ (i:=7) (N:=some 19) (v:=?_) (a':=?_) #[T,T,T,T,T,T,T,T,F,F,F,F,F,F,F,F,F,F,F,F,F,F,F,F,F,F,F,F,F,F,F,F,F,F,F] rfl rfl (any_of HT_.out (by kernel_rfl)) (fun _ _ _ h => h) (Or.inl ⟨by rfl,?_⟩) ?_ ?_
          rotate_left
          ·intro w'
           go_simp
           with_reducible rfl
          rotate_left
          ·simp only [Act.put,setIfInBounds_toArray,set_cons_zero,set_cons_succ,i64_w,i32_w]
           rfl
          refine pure_ (i:=8) (N:=some 20) (v:=?_) (a':=?_) #[T,T,T,T,T,T,T,T,T,F,F,F,F,F,F,F,F,F,F,F,F,F,F,F,F,F,F,F,F,F,F,F,F,F,F] rfl rfl (any_of HT_.out (by kernel_rfl)) (fun _ _ _ h => h) (Or.inl ⟨by rfl,?_⟩) ?_ ?_
          rotate_left
          ·intro w'
           go_simp
           with_reducible rfl
          rotate_left
          ·simp only [Act.put,setIfInBounds_toArray,set_cons_zero,set_cons_succ,i64_w,i32_w]
           rfl
          refine pure_ (i:=9) (N:=some 21) (v:=?_) (a':=?_) #[T,T,T,T,T,T,T,T,T,T,F,F,F,F,F,F,F,F,F,F,F,F,F,F,F,F,F,F,F,F,F,F,F,F,F] rfl rfl (any_of HT_.out (by kernel_rfl)) (fun _ _ _ h => h) (Or.inl ⟨by rfl,?_⟩) ?_ ?_
          rotate_left
          ·intro w'
           go_simp
           with_reducible rfl
          rotate_left
          ·simp only [Act.put,setIfInBounds_toArray,set_cons_zero,set_cons_succ,i64_w,i32_w]
           rfl
          refine take_ (i:=10) (N:=some 22) (v:=?_) (a':=?_) #[T,T,T,T,T,T,T,T,T,T,T,F,F,F,F,F,F,F,F,F,F,F,F,F,F,F,F,F,F,F,F,F,F,F,F] rfl rfl (take_ofW HT_.out HW_.out (by kernel_rfl)) (fun _ _ _ h => h) (Or.inl ⟨by rfl,?_⟩) hHeld ?_ ?_
          rotate_left
          ·rintro w' ⟨s0,s1,s2,s3,s4,s5,s6⟩
           go_simp
           with_reducible rfl
          rotate_left
          ·simp only [Act.put,setIfInBounds_toArray,set_cons_zero,set_cons_succ,i64_w,i32_w]
           rfl
          refine one_ (i:=11) (N:=some 23) #[T,T,T,T,T,T,T,T,T,T,T,T,F,F,F,F,F,F,F,F,F,F,F,F,F,F,F,F,F,F,F,F,F,F,F] rfl rfl (one_of HT_.out (by kernel_rfl)) (by decide) (fun K hK => ?_)
          refine goes_ Tryd.func103 (by kernel_rfl) rfl #[.agg #[.int .i64 ((rd_T88 l0 x7_1).f1.f0),.int .i64 ((rd_T88 l0 x7_1).f1.f1),.int .i64 ((rd_T88 l0 x7_1).f1.f2),.int .i64 ((rd_T88 l0 x7_1).f1.f3),.int .i64 ((rd_T88 l0 x7_1).f1.f4),.int .i64 ((rd_T88 l0 x7_1).f1.f5)]] (by rfl) rfl rfl (by (try simp only [List.map_toArray,List.map_cons,List.map_nil]); first | done | rfl | (simp only [List.length_drop,List.length_take]; rfl)) ?_
          with_reducible refine (impl_AggOK.calls ((rd_T88 l0 x7_1).f1.f0) ((rd_T88 l0 x7_1).f1.f1) ((rd_T88 l0 x7_1).f1.f2) ((rd_T88 l0 x7_1).f1.f3) ((rd_T88 l0 x7_1).f1.f4) ((rd_T88 l0 x7_1).f1.f5) true _ A12.out).mono ?_
          rintro e w19 ⟨rfl,hb⟩
          refine ⟨_,rfl,?_⟩
          have n0_ := Aside0.mk (blk_below (g:=gb250) (o:=.cells #[.int .i64 ((rd_T88 l0 x7_1).f0),.int .i64 ((rd_T88 l0 x7_1).f1.f0),.int .i64 ((rd_T88 l0 x7_1).f1.f1),.int .i64 ((rd_T88 l0 x7_1).f1.f2),.int .i64 ((rd_T88 l0 x7_1).f1.f3),.int .i64 ((rd_T88 l0 x7_1).f1.f4),.int .i64 ((rd_T88 l0 x7_1).f1.f5)] 88 (0,0)) (by (with_reducible repeat (first | refine blk_drewN ?_ _ | refine blk_drew ?_ | refine blk_alloc ?_ _)); exact BK250.out) hb)
          have n1_ := Aside0.mk (below_step (by repeat (first | (with_reducible first | exact HB.out | apply below_alloc | apply pw_below_drewN | apply below_drew1 | refine below_set ?_ GE250.out) | exact HB.out)) hb)
          clear BK250
          clear HB
          have BK250 := n0_
          have HB := n1_
          clear n0_ n1_
          (try clear hb)
          (try clear hb2)
          (try clear hk)
          (try clear hi)
          refine hK.out _ _ ⟨(blk_cell BK250.out 0).trans rfl,(blk_cell BK250.out 1).trans rfl,(blk_cell BK250.out 2).trans rfl,(blk_cell BK250.out 3).trans rfl,(blk_cell BK250.out 4).trans rfl,(blk_cell BK250.out 5).trans rfl,(blk_cell BK250.out 6).trans rfl⟩ (fun hHeld => ?_)
          clear hK K
          refine norm_ (a':=?_) ?_ ?_
          rotate_left
          ·show Act.put _ (some 23) _ = _
           simp only [Act.put,setIfInBounds_toArray,set_cons_zero,set_cons_succ,i64_w,i32_w]
           rfl
          refine pure_ (i:=12) (N:=some 24) (v:=?_) (a':=?_) #[T,T,T,T,T,T,T,T,T,T,T,T,T,F,F,F,F,F,F,F,F,F,F,F,F,F,F,F,F,F,F,F,F,F,F] rfl rfl (any_of HT_.out (by kernel_rfl)) (fun _ _ _ h => h) (Or.inl ⟨by rfl,?_⟩) ?_ ?_
          rotate_left
          ·intro w'
           go_simp
           with_reducible rfl
          rotate_left
          ·simp only [Act.put,setIfInBounds_toArray,set_cons_zero,set_cons_succ,i64_w,i32_w]
           rfl
          refine pure_ (i:=13) (N:=some 25) (v:=?_) (a':=?_) #[T,T,T,T,T,T,T,T,T,T,T,T,T,T,F,F,F,F,F,F,F,F,F,F,F,F,F,F,F,F,F,F,F,F,F] rfl rfl (any_of HT_.out (by kernel_rfl)) (fun _ _ _ h => h) (Or.inl ⟨by rfl,?_⟩) ?_ ?_
          rotate_left
          ·intro w'
           go_simp
           with_reducible rfl
          rotate_left
          ·simp only [Act.put,setIfInBounds_toArray,set_cons_zero,set_cons_succ,i64_w,i32_w]
           rfl
          refine pure_ (i:=14) (N:=some 26) (v:=?_) (a':=?_) #[T,T,T,T,T,T,T,T,T,T,T,T,T,T,T,F,F,F,F,F,F,F,F,F,F,F,F,F,F,F,F,F,F,F,F] rfl rfl (any_of HT_.out (by kernel_rfl)) (fun _ _ _ h => h) (Or.inl ⟨by rfl,?_⟩) ?_ ?_
          rotate_left
          ·intro w'
           go_simp
           with_reducible rfl
          rotate_left
          ·simp only [Act.put,setIfInBounds_toArray,set_cons_zero,set_cons_succ,i64_w,i32_w]
           rfl
          refine pure_ (i:=15) (N:=some 27) (v:=?_) (a':=?_) #[T,T,T,T,T,T,T,T,T,T,T,T,T,T,T,T,F,F,F,F,F,F,F,F,F,F,F,F,F,F,F,F,F,F,F] rfl rfl (any_of HT_.out (by kernel_rfl)) (fun _ _ _ h => h) (Or.inl ⟨by rfl,?_⟩) ?_ ?_
          rotate_left
          ·intro w'
           go_simp
           with_reducible rfl
          rotate_left
          ·simp only [Act.put,setIfInBounds_toArray,set_cons_zero,set_cons_succ,i64_w,i32_w]
           rfl
          refine pure_ (i:=16) (N:=some 28) (v:=?_) (a':=?_) #[T,T,T,T,T,T,T,T,T,T,T,T,T,T,T,T,T,F,F,F,F,F,F,F,F,F,F,F,F,F,F,F,F,F,F] rfl rfl (any_of HT_.out (by kernel_rfl)) (fun _ _ _ h => h) (Or.inl ⟨by rfl,?_⟩) ?_ ?_
          rotate_left
          ·intro w'
           go_simp
           with_reducible rfl
          rotate_left
          ·simp only [Act.put,setIfInBounds_toArray,set_cons_zero,set_cons_succ,i64_w,i32_w]
           rfl
          refine take_ (i:=17) (N:=some 29) (v:=?_) (a':=?_) #[T,T,T,T,T,T,T,T,T,T,T,T,T,T,T,T,T,T,F,F,F,F,F,F,F,F,F,F,F,F,F,F,F,F,F] rfl rfl (take_ofW HT_.out HW_.out (by kernel_rfl)) (fun _ _ _ h => h) (Or.inl ⟨by rfl,?_⟩) hHeld ?_ ?_
          rotate_left
          ·rintro w' ⟨s0,s1,s2,s3,s4,s5,s6⟩
           go_simp
           with_reducible rfl
          rotate_left
          ·simp only [Act.put,setIfInBounds_toArray,set_cons_zero,set_cons_succ,i64_w,i32_w]
           rfl
          refine pure_ (i:=18) (N:=some 30) (v:=?_) (a':=?_) #[T,T,T,T,T,T,T,T,T,T,T,T,T,T,T,T,T,T,T,F,F,F,F,F,F,F,F,F,F,F,F,F,F,F,F] rfl rfl (any_of HT_.out (by kernel_rfl)) (fun _ _ _ h => h) (Or.inl ⟨by rfl,?_⟩) ?_ ?_
          rotate_left
          ·intro w'
           go_simp
           with_reducible rfl
          rotate_left
          ·simp only [Act.put,setIfInBounds_toArray,set_cons_zero,set_cons_succ,i64_w,i32_w]
           rfl
          refine pure_ (i:=19) (N:=some 31) (v:=?_) (a':=?_) #[T,T,T,T,T,T,T,T,T,T,T,T,T,T,T,T,T,T,T,T,F,F,F,F,F,F,F,F,F,F,F,F,F,F,F] rfl rfl (any_of HT_.out (by kernel_rfl)) (fun _ _ _ h => h) (Or.inl ⟨by rfl,?_⟩) ?_ ?_
          rotate_left
          ·intro w'
           go_simp
           with_reducible rfl
          rotate_left
          ·simp only [Act.put,setIfInBounds_toArray,set_cons_zero,set_cons_succ,i64_w,i32_w]
           rfl
          refine pure_ (i:=20) (N:=some 32) (v:=?_) (a':=?_) #[T,T,T,T,T,T,T,T,T,T,T,T,T,T,T,T,T,T,T,T,T,F,F,F,F,F,F,F,F,F,F,F,F,F,F] rfl rfl (any_of HT_.out (by kernel_rfl)) (fun _ _ _ h => h) (Or.inl ⟨by rfl,?_⟩) ?_ ?_
          rotate_left
          ·intro w'
           go_simp
           with_reducible rfl
          rotate_left
          ·simp only [Act.put,setIfInBounds_toArray,set_cons_zero,set_cons_succ,i64_w,i32_w]
           rfl
          refine pure_ (i:=21) (N:=some 33) (v:=undef) (a':=?_) #[T,T,T,T,T,T,T,T,T,T,T,T,T,T,T,T,T,T,T,T,T,T,F,F,F,F,F,F,F,F,F,F,F,F,F] rfl rfl (any_of HT_.out (by kernel_rfl)) (fun _ _ _ h => h) (Or.inr ⟨by rfl,rfl⟩) ?_ ?_
          rotate_left
          ·simp only [Act.put,setIfInBounds_toArray,set_cons_zero,set_cons_succ,i64_w,i32_w]
           rfl
          refine pure_ (i:=22) (N:=some 34) (v:=undef) (a':=?_) #[T,T,T,T,T,T,T,T,T,T,T,T,T,T,T,T,T,T,T,T,T,T,T,F,F,F,F,F,F,F,F,F,F,F,F] rfl rfl (any_of HT_.out (by kernel_rfl)) (fun _ _ _ h => h) (Or.inr ⟨by rfl,rfl⟩) ?_ ?_
          rotate_left
          ·simp only [Act.put,setIfInBounds_toArray,set_cons_zero,set_cons_succ,i64_w,i32_w]
           rfl
          refine pure_ (i:=23) (N:=some 35) (v:=undef) (a':=?_) #[T,T,T,T,T,T,T,T,T,T,T,T,T,T,T,T,T,T,T,T,T,T,T,T,F,F,F,F,F,F,F,F,F,F,F] rfl rfl (any_of HT_.out (by kernel_rfl)) (fun _ _ _ h => h) (Or.inr ⟨by rfl,rfl⟩) ?_ ?_
          rotate_left
          ·simp only [Act.put,setIfInBounds_toArray,set_cons_zero,set_cons_succ,i64_w,i32_w]
           rfl
          refine pure_ (i:=24) (N:=some 36) (v:=undef) (a':=?_) #[T,T,T,T,T,T,T,T,T,T,T,T,T,T,T,T,T,T,T,T,T,T,T,T,T,F,F,F,F,F,F,F,F,F,F] rfl rfl (any_of HT_.out (by kernel_rfl)) (fun _ _ _ h => h) (Or.inr ⟨by rfl,rfl⟩) ?_ ?_
          rotate_left
          ·simp only [Act.put,setIfInBounds_toArray,set_cons_zero,set_cons_succ,i64_w,i32_w]
           rfl
          refine pure_ (i:=25) (N:=some 37) (v:=undef) (a':=?_) #[T,T,T,T,T,T,T,T,T,T,T,T,T,T,T,T,T,T,T,T,T,T,T,T,T,T,F,F,F,F,F,F,F,F,F] rfl rfl (any_of HT_.out (by kernel_rfl)) (fun _ _ _ h => h) (Or.inr ⟨by rfl,rfl⟩) ?_ ?_
          rotate_left
          ·simp only [Act.put,setIfInBounds_toArray,set_cons_zero,set_cons_succ,i64_w,i32_w]
           rfl
          refine pure_ (i:=26) (N:=some 38) (v:=undef) (a':=?_) #[T,T,T,T,T,T,T,T,T,T,T,T,T,T,T,T,T,T,T,T,T,T,T,T,T,T,T,F,F,F,F,F,F,F,F] rfl rfl (any_of HT_.out (by kernel_rfl)) (fun _ _ _ h => h) (Or.inr ⟨by rfl,rfl⟩) ?_ ?_
          rotate_left
          ·simp only [Act.put,setIfInBounds_toArray,set_cons_zero,set_cons_succ,i64_w,i32_w]
           rfl
          refine pure_ (i:=27) (N:=some 39) (v:=undef) (a':=?_) #[T,T,T,T,T,T,T,T,T,T,T,T,T,T,T,T,T,T,T,T,T,T,T,T,T,T,T,T,F,F,F,F,F,F,F] rfl rfl (any_of HT_.out (by kernel_rfl)) (fun _ _ _ h => h) (Or.inr ⟨by rfl,rfl⟩) ?_ ?_
          rotate_left
          ·simp only [Act.put,setIfInBounds_toArray,set_cons_zero,set_cons_succ,i64_w,i32_w]
           rfl
          refine pure_ (i:=28) (N:=some 40) (v:=undef) (a':=?_) #[T,T,T,T,T,T,T,T,T,T,T,T,T,T,T,T,T,T,T,T,T,T,T,T,T,T,T,T,T,F,F,F,F,F,F] rfl rfl (any_of HT_.out (by kernel_rfl)) (fun _ _ _ h => h) (Or.inr ⟨by rfl,rfl⟩) ?_ ?_
          rotate_left
          ·simp only [Act.put,setIfInBounds_toArray,set_cons_zero,set_cons_succ,i64_w,i32_w]
           rfl
          refine pure_ (i:=29) (N:=some 41) (v:=undef) (a':=?_) #[T,T,T,T,T,T,T,T,T,T,T,T,T,T,T,T,T,T,T,T,T,T,T,T,T,T,T,T,T,T,F,F,F,F,F] rfl rfl (any_of HT_.out (by kernel_rfl)) (fun _ _ _ h => h) (Or.inr ⟨by rfl,rfl⟩) ?_ ?_
          rotate_left
          ·simp only [Act.put,setIfInBounds_toArray,set_cons_zero,set_cons_succ,i64_w,i32_w]
           rfl
          refine pure_ (i:=30) (N:=some 42) (v:=undef) (a':=?_) #[T,T,T,T,T,T,T,T,T,T,T,T,T,T,T,T,T,T,T,T,T,T,T,T,T,T,T,T,T,T,T,F,F,F,F] rfl rfl (any_of HT_.out (by kernel_rfl)) (fun _ _ _ h => h) (Or.inr ⟨by rfl,rfl⟩) ?_ ?_
          rotate_left
          ·simp only [Act.put,setIfInBounds_toArray,set_cons_zero,set_cons_succ,i64_w,i32_w]
           rfl
          refine pure_ (i:=31) (N:=some 43) (v:=undef) (a':=?_) #[T,T,T,T,T,T,T,T,T,T,T,T,T,T,T,T,T,T,T,T,T,T,T,T,T,T,T,T,T,T,T,T,F,F,F] rfl rfl (any_of HT_.out (by kernel_rfl)) (fun _ _ _ h => h) (Or.inr ⟨by rfl,rfl⟩) ?_ ?_
          rotate_left
          ·simp only [Act.put,setIfInBounds_toArray,set_cons_zero,set_cons_succ,i64_w,i32_w]
           rfl
          refine pure_ (i:=32) (N:=some 44) (v:=undef) (a':=?_) #[T,T,T,T,T,T,T,T,T,T,T,T,T,T,T,T,T,T,T,T,T,T,T,T,T,T,T,T,T,T,T,T,T,F,F] rfl rfl (any_of HT_.out (by kernel_rfl)) (fun _ _ _ h => h) (Or.inr ⟨by rfl,rfl⟩) ?_ ?_
          rotate_left
          ·simp only [Act.put,setIfInBounds_toArray,set_cons_zero,set_cons_succ,i64_w,i32_w]
           rfl
          refine pure_ (i:=33) (N:=some 45) (v:=undef) (a':=?_) #[T,T,T,T,T,T,T,T,T,T,T,T,T,T,T,T,T,T,T,T,T,T,T,T,T,T,T,T,T,T,T,T,T,T,F] rfl rfl (any_of HT_.out (by kernel_rfl)) (fun _ _ _ h => h) (Or.inr ⟨by rfl,rfl⟩) ?_ ?_
          rotate_left
          ·simp only [Act.put,setIfInBounds_toArray,set_cons_zero,set_cons_succ,i64_w,i32_w]
           rfl
          refine pure_ (i:=34) (N:=some 46) (v:=?_) (a':=?_) #[T,T,T,T,T,T,T,T,T,T,T,T,T,T,T,T,T,T,T,T,T,T,T,T,T,T,T,T,T,T,T,T,T,T,T] rfl rfl (any_of HT_.out (by kernel_rfl)) (fun _ _ _ h => h) (Or.inl ⟨by rfl,?_⟩) ?_ ?_
          rotate_left
          ·intro w'
           go_simp
           with_reducible rfl
          rotate_left
          ·simp only [Act.put,setIfInBounds_toArray,set_cons_zero,set_cons_succ,i64_w,i32_w]
           rfl
          refine done_ (done_of HT_.out (by kernel_rfl)) ?_
          try go_wp2
          go_ret
          exact ⟨by first | rfl | (simp only [i64_w,i32_w] <;> rfl) | (simp [errW_none,errW_some] <;> rfl) | (simp [*,errW_none,errW_some] <;> rfl),by repeat (first | (with_reducible first | exact HB.out | apply below_alloc | apply pw_below_drewN | apply below_drew1 | refine below_set ?_ GE250.out) | exact HB.out)⟩
         ·rw [if_neg c14] at H
          have c14b0 : (((rd_T88 l0 x7_1).f1.f0) == 0) = false := beq_eq_false_iff_ne.mpr c14
          have c14b1 : (((rd_T88 l0 x7_1).f1.f0) != 0) = true := bne_iff_ne.mpr c14
          by_cases c20 : x7_1 > 0
          ·rw [if_pos c20] at H
           have c20b0 : decide (0 < x7_1) = true := decide_eq_true c20
           clear c20
           obtain ⟨ji21,hji21⟩ : ∃ j_ : Int,(wrap64 (x7_1 - 1)) = j_ := ⟨_,rfl⟩
           replace H : (if 0 ≤ (ji21) then (if (ji21) < (l0.length : Int) then (if ((rd_T88 l0 x7_1).f0) ≤ ((rd_T88 l0 (ji21)).f0) then (some false) else (impl_BucketsOK.l0 k1 l0 l0 (l0.length : Int) (wrap64 (x7_1 + 1)))) else (none)) else (none)) = some r := by first | (rw [hji21] at H; exact H) | (simp only [hji21] at H ⊢; exact H)
           (try rw [hji21] at A10)
           (try rw [hji21] at A12)
           have hji21w : (IntKind.i64.wrap (x7_1 - 1)) = ji21 := (i64_w _).trans hji21
           by_cases c22 : 0 ≤ (ji21)
           ·rw [if_pos c22] at H
            have c22b0 : decide (0 ≤ (ji21)) = true := decide_eq_true c22
            clear c22
            by_cases c23 : (ji21) < (l0.length : Int)
            ·rw [if_pos c23] at H
             have c23b0 : decide ((ji21) < (l0.length : Int)) = true := decide_eq_true c23
             clear c23
             by_cases c24 : ((rd_T88 l0 x7_1).f0) ≤ ((rd_T88 l0 (ji21)).f0)
             ·rw [if_pos c24] at H
              have c24b0 : decide (((rd_T88 l0 x7_1).f0) ≤ ((rd_T88 l0 (ji21)).f0)) = true := decide_eq_true c24
              clear c24
              obtain rfl := Option.some.inj H
              have p249 : 0 ≤ (x7_1 : Int) := of_decide_eq_true (by first | (with_reducible assumption) | assumption)
              have q249 : x7_1 < (l0.length : Int) := of_decide_eq_true (by first | (with_reducible assumption) | assumption)
              obtain ⟨ad249,e249,hx249_0,hx249_1,hx249_2,hx249_3,hx249_4,hx249_5,hx249_6⟩ := at_T88 HR0.out x7_1 p249 q249
              cases e249
              replace hx249_0 := (HB.out.cell (bl_ w _ hx249_0)).trans hx249_0
              replace hx249_1 := (HB.out.cell (bl_ w _ hx249_1)).trans hx249_1
              replace hx249_2 := (HB.out.cell (bl_ w _ hx249_2)).trans hx249_2
              replace hx249_3 := (HB.out.cell (bl_ w _ hx249_3)).trans hx249_3
              replace hx249_4 := (HB.out.cell (bl_ w _ hx249_4)).trans hx249_4
              replace hx249_5 := (HB.out.cell (bl_ w _ hx249_5)).trans hx249_5
              replace hx249_6 := (HB.out.cell (bl_ w _ hx249_6)).trans hx249_6
              replace p249 := eq_true p249
              replace q249 := eq_true q249
              try go_wp2_with (first | ((with_reducible refine gate_dst (N:=4) rfl ?_); refine box_event ?hg (N:=4) ?hd (cs := #[.int .i64 0,.int .i64 0,.int .i64 0,.int .i64 0,.int .i64 0,.int .i64 0,.int .i64 0]) (t:=88) ?hr ?_; (case hd => rfl); (case hg => rfl); (case hr => first | (go_simp; done) | (go_simp; rfl)); intro gb250 hg w25 hbox hb; have n0_ := Aside0.mk (below_step (by repeat (first | (with_reducible first | exact HB.out | apply below_alloc | apply pw_below_drewN | apply below_drew1) | exact HB.out)) hb); have n1_ := Aside0.mk (hbox); have n2_ := Aside0.mk ((by rw [hg]; exact (below_size (by repeat (first | (with_reducible first | exact HB.out | apply below_alloc | apply pw_below_drewN | apply below_drew1) | exact HB.out))) : w.heap.size ≤ gb250)); have n3_ := Aside0.mk ((by rw [hg]; exact (below_size (by repeat (first | (with_reducible first | exact HB.out | apply below_alloc | apply pw_below_drewN | apply below_drew1) | exact HB.out))) : w.heap.size ≤ gb250)); clear HB; have HB := n0_; have BK250 := n1_; have GW250 := n2_; have GE250 := n3_; clear n0_ n1_ n2_ n3_; clear hb hbox hg; have hcz26_0 : w25.cell? ⟨gb250,0,none⟩ = some (.int .i64 0) := (blk_cell BK250.out 0).trans rfl; have hcz26_1 : w25.cell? ⟨gb250,1,none⟩ = some (.int .i64 0) := (blk_cell BK250.out 1).trans rfl; have hcz26_2 : w25.cell? ⟨gb250,2,none⟩ = some (.int .i64 0) := (blk_cell BK250.out 2).trans rfl; have hcz26_3 : w25.cell? ⟨gb250,3,none⟩ = some (.int .i64 0) := (blk_cell BK250.out 3).trans rfl; have hcz26_4 : w25.cell? ⟨gb250,4,none⟩ = some (.int .i64 0) := (blk_cell BK250.out 4).trans rfl; have hcz26_5 : w25.cell? ⟨gb250,5,none⟩ = some (.int .i64 0) := (blk_cell BK250.out 5).trans rfl; have hcz26_6 : w25.cell? ⟨gb250,6,none⟩ = some (.int .i64 0) := (blk_cell BK250.out 6).trans rfl; have hfz26_0 := blk_frozen BK250.out 0; have hfz26_1 := blk_frozen BK250.out 1; have hfz26_2 := blk_frozen BK250.out 2; have hfz26_3 := blk_frozen BK250.out 3; have hfz26_4 := blk_frozen BK250.out 4; have hfz26_5 := blk_frozen BK250.out 5; have hfz26_6 := blk_frozen BK250.out 6))
              have n0_ : Aside0 ((((((((w25.setCell ⟨gb250,0,none⟩ (.int .i64 ((rd_T88 l0 x7_1).f0))).setCell ⟨gb250,1,none⟩ (.int .i64 ((rd_T88 l0 x7_1).f1.f0))).setCell ⟨gb250,2,none⟩ (.int .i64 ((rd_T88 l0 x7_1).f1.f1))).setCell ⟨gb250,3,none⟩ (.int .i64 ((rd_T88 l0 x7_1).f1.f2))).setCell ⟨gb250,4,none⟩ (.int .i64 ((rd_T88 l0 x7_1).f1.f3))).setCell ⟨gb250,5,none⟩ (.int .i64 ((rd_T88 l0 x7_1).f1.f4))).setCell ⟨gb250,6,none⟩ (.int .i64 ((rd_T88 l0 x7_1).f1.f5))).heap[gb250]? = some (.cells #[.int .i64 ((rd_T88 l0 x7_1).f0),.int .i64 ((rd_T88 l0 x7_1).f1.f0),.int .i64 ((rd_T88 l0 x7_1).f1.f1),.int .i64 ((rd_T88 l0 x7_1).f1.f2),.int .i64 ((rd_T88 l0 x7_1).f1.f3),.int .i64 ((rd_T88 l0 x7_1).f1.f4),.int .i64 ((rd_T88 l0 x7_1).f1.f5)] 88 (0,0))) := ⟨by (with_reducible repeat (first | refine blk_drewN ?_ _ | refine blk_drew ?_ | refine blk_alloc ?_ _)); refine blk_put (cs := #[.int .i64 ((rd_T88 l0 x7_1).f0),.int .i64 ((rd_T88 l0 x7_1).f1.f0),.int .i64 ((rd_T88 l0 x7_1).f1.f1),.int .i64 ((rd_T88 l0 x7_1).f1.f2),.int .i64 ((rd_T88 l0 x7_1).f1.f3),.int .i64 ((rd_T88 l0 x7_1).f1.f4),.int .i64 0]) ?_ 6 _ rfl; (with_reducible repeat (first | refine blk_drewN ?_ _ | refine blk_drew ?_ | refine blk_alloc ?_ _)); refine blk_put (cs := #[.int .i64 ((rd_T88 l0 x7_1).f0),.int .i64 ((rd_T88 l0 x7_1).f1.f0),.int .i64 ((rd_T88 l0 x7_1).f1.f1),.int .i64 ((rd_T88 l0 x7_1).f1.f2),.int .i64 ((rd_T88 l0 x7_1).f1.f3),.int .i64 0,.int .i64 0]) ?_ 5 _ rfl; (with_reducible repeat (first | refine blk_drewN ?_ _ | refine blk_drew ?_ | refine blk_alloc ?_ _)); refine blk_put (cs := #[.int .i64 ((rd_T88 l0 x7_1).f0),.int .i64 ((rd_T88 l0 x7_1).f1.f0),.int .i64 ((rd_T88 l0 x7_1).f1.f1),.int .i64 ((rd_T88 l0 x7_1).f1.f2),.int .i64 0,.int .i64 0,.int .i64 0]) ?_ 4 _ rfl; (with_reducible repeat (first | refine blk_drewN ?_ _ | refine blk_drew ?_ | refine blk_alloc ?_ _)); refine blk_put (cs := #[.int .i64 ((rd_T88 l0 x7_1).f0),.int .i64 ((rd_T88 l0 x7_1).f1.f0),.int .i64 ((rd_T88 l0 x7_1).f1.f1),.int .i64 0,.int .i64 0,.int .i64 0,.int .i64 0]) ?_ 3 _ rfl; (with_reducible repeat (first | refine blk_drewN ?_ _ | refine blk_drew ?_ | refine blk_alloc ?_ _)); refine blk_put (cs := #[.int .i64 ((rd_T88 l0 x7_1).f0),.int .i64 ((rd_T88 l0 x7_1).f1.f0),.int .i64 0,.int .i64 0,.int .i64 0,.int .i64 0,.int .i64 0]) ?_ 2 _ rfl; (with_reducible repeat (first | refine blk_drewN ?_ _ | refine blk_drew ?_ | refine blk_alloc ?_ _)); refine blk_put (cs := #[.int .i64 ((rd_T88 l0 x7_1).f0),.int .i64 0,.int .i64 0,.int .i64 0,.int .i64 0,.int .i64 0,.int .i64 0]) ?_ 1 _ rfl; (with_reducible repeat (first | refine blk_drewN ?_ _ | refine blk_drew ?_ | refine blk_alloc ?_ _)); refine blk_put (cs := #[.int .i64 0,.int .i64 0,.int .i64 0,.int .i64 0,.int .i64 0,.int .i64 0,.int .i64 0]) ?_ 0 _ rfl; (with_reducible repeat (first | refine blk_drewN ?_ _ | refine blk_drew ?_ | refine blk_alloc ?_ _)); exact BK250.out⟩
              have n1_ : Aside0 (Below w.heap.size w (((((((w25.setCell ⟨gb250,0,none⟩ (.int .i64 ((rd_T88 l0 x7_1).f0))).setCell ⟨gb250,1,none⟩ (.int .i64 ((rd_T88 l0 x7_1).f1.f0))).setCell ⟨gb250,2,none⟩ (.int .i64 ((rd_T88 l0 x7_1).f1.f1))).setCell ⟨gb250,3,none⟩ (.int .i64 ((rd_T88 l0 x7_1).f1.f2))).setCell ⟨gb250,4,none⟩ (.int .i64 ((rd_T88 l0 x7_1).f1.f3))).setCell ⟨gb250,5,none⟩ (.int .i64 ((rd_T88 l0 x7_1).f1.f4))).setCell ⟨gb250,6,none⟩ (.int .i64 ((rd_T88 l0 x7_1).f1.f5)))) := ⟨by repeat (first | (with_reducible first | exact HB.out | apply below_alloc | apply pw_below_drewN | apply below_drew1 | refine below_set ?_ GE250.out) | exact HB.out)⟩
              (try clear BK250)
              (try clear HB)
              generalize (((((((w25.setCell ⟨gb250,0,none⟩ (.int .i64 ((rd_T88 l0 x7_1).f0))).setCell ⟨gb250,1,none⟩ (.int .i64 ((rd_T88 l0 x7_1).f1.f0))).setCell ⟨gb250,2,none⟩ (.int .i64 ((rd_T88 l0 x7_1).f1.f1))).setCell ⟨gb250,3,none⟩ (.int .i64 ((rd_T88 l0 x7_1).f1.f2))).setCell ⟨gb250,4,none⟩ (.int .i64 ((rd_T88 l0 x7_1).f1.f3))).setCell ⟨gb250,5,none⟩ (.int .i64 ((rd_T88 l0 x7_1).f1.f4))).setCell ⟨gb250,6,none⟩ (.int .i64 ((rd_T88 l0 x7_1).f1.f5))) = w27 at n0_ n1_ ⊢
              have BK250 := n0_
              have HB := n1_
              clear n0_ n1_
              have n0_ := Aside0.mk (blk_drew BK250.out)
              have n1_ := Aside0.mk (below_drew1 HB.out)
              clear BK250
              clear HB
              have BK250 := n0_
              have HB := n1_
              clear n0_ n1_
              have p253 : 0 ≤ ((ji21) : Int) := of_decide_eq_true (by first | (with_reducible assumption) | assumption)
              have q253 : (ji21) < (l0.length : Int) := of_decide_eq_true (by first | (with_reducible assumption) | assumption)
              obtain ⟨ad253,e253,hx253_0,hx253_1,hx253_2,hx253_3,hx253_4,hx253_5,hx253_6⟩ := at_T88 HR0.out (ji21) p253 q253
              have hw253_6 := hx253_6
              have hw253_5 := hx253_5
              have hw253_4 := hx253_4
              have hw253_3 := hx253_3
              have hw253_2 := hx253_2
              have hw253_1 := hx253_1
              have hw253_0 := hx253_0
              obtain rfl : ad249 = ad253 := (by injection e253)
              replace hx253_0 := (HB.out.cell (bl_ w _ hx253_0)).trans hx253_0
              replace hx253_1 := (HB.out.cell (bl_ w _ hx253_1)).trans hx253_1
              replace hx253_2 := (HB.out.cell (bl_ w _ hx253_2)).trans hx253_2
              replace hx253_3 := (HB.out.cell (bl_ w _ hx253_3)).trans hx253_3
              replace hx253_4 := (HB.out.cell (bl_ w _ hx253_4)).trans hx253_4
              replace hx253_5 := (HB.out.cell (bl_ w _ hx253_5)).trans hx253_5
              replace hx253_6 := (HB.out.cell (bl_ w _ hx253_6)).trans hx253_6
              replace p253 := eq_true p253
              replace q253 := eq_true q253
              refine start_ (n:=35) (S:=fun w' => w'.cell? ⟨gb250,0,none⟩ = some (.int .i64 ((rd_T88 l0 x7_1).f0)) ∧ w'.cell? ⟨gb250,1,none⟩ = some (.int .i64 ((rd_T88 l0 x7_1).f1.f0)) ∧ w'.cell? ⟨gb250,2,none⟩ = some (.int .i64 ((rd_T88 l0 x7_1).f1.f1)) ∧ w'.cell? ⟨gb250,3,none⟩ = some (.int .i64 ((rd_T88 l0 x7_1).f1.f2)) ∧ w'.cell? ⟨gb250,4,none⟩ = some (.int .i64 ((rd_T88 l0 x7_1).f1.f3)) ∧ w'.cell? ⟨gb250,5,none⟩ = some (.int .i64 ((rd_T88 l0 x7_1).f1.f4)) ∧ w'.cell? ⟨gb250,6,none⟩ = some (.int .i64 ((rd_T88 l0 x7_1).f1.f5)) ∧ w'.cell? (ad249.add (((ji21)).toNat * 7)) = some (.int .i64 ((rd_T88 l0 (ji21)).f0)) ∧ w'.cell? ⟨(ad249.add (((ji21)).toNat * 7)).block,(ad249.add (((ji21)).toNat * 7)).off + 1,none⟩ = some (.int .i64 ((rd_T88 l0 (ji21)).f1.f0)) ∧ w'.cell? ⟨(ad249.add (((ji21)).toNat * 7)).block,(ad249.add (((ji21)).toNat * 7)).off + 2,none⟩ = some (.int .i64 ((rd_T88 l0 (ji21)).f1.f1)) ∧ w'.cell? ⟨(ad249.add (((ji21)).toNat * 7)).block,(ad249.add (((ji21)).toNat * 7)).off + 3,none⟩ = some (.int .i64 ((rd_T88 l0 (ji21)).f1.f2)) ∧ w'.cell? ⟨(ad249.add (((ji21)).toNat * 7)).block,(ad249.add (((ji21)).toNat * 7)).off + 4,none⟩ = some (.int .i64 ((rd_T88 l0 (ji21)).f1.f3)) ∧ w'.cell? ⟨(ad249.add (((ji21)).toNat * 7)).block,(ad249.add (((ji21)).toNat * 7)).off + 5,none⟩ = some (.int .i64 ((rd_T88 l0 (ji21)).f1.f4)) ∧ w'.cell? ⟨(ad249.add (((ji21)).toNat * 7)).block,(ad249.add (((ji21)).toNat * 7)).off + 6,none⟩ = some (.int .i64 ((rd_T88 l0 (ji21)).f1.f5))) (ds := []) #[F,F,F,F,F,F,F,F,F,F,F,F,F,F,F,F,F,F,F,F,F,F,F,F,F,F,F,F,F,F,F,F,F,F,F] (by kernel_rfl) rfl rfl ⟨(blk_cell BK250.out 0).trans rfl,(blk_cell BK250.out 1).trans rfl,(blk_cell BK250.out 2).trans rfl,(blk_cell BK250.out 3).trans rfl,(blk_cell BK250.out 4).trans rfl,(blk_cell BK250.out 5).trans rfl,(blk_cell BK250.out 6).trans rfl,((HB.out.cell (bl_ w _ hw253_0)).trans hw253_0),((HB.out.cell (bl_ w _ hw253_1)).trans hw253_1),((HB.out.cell (bl_ w _ hw253_2)).trans hw253_2),((HB.out.cell (bl_ w _ hw253_3)).trans hw253_3),((HB.out.cell (bl_ w _ hw253_4)).trans hw253_4),((HB.out.cell (bl_ w _ hw253_5)).trans hw253_5),((HB.out.cell (bl_ w _ hw253_6)).trans hw253_6)⟩ (fun hHeld => ?_); refine with_tabW impl_BucketsOK.tab4 impl_BucketsOK.bits4 (fun HT_ HW_ => ?_)
              generalize w27.drew = w28 at BK250 HB hx253_0 hx253_1 hx253_2 hx253_3 hx253_4 hx253_5 hx253_6 hHeld ⊢
              refine pure_ (i:=0) (N:=some 12) (v:=?_) (a':=?_) #[T,F,F,F,F,F,F,F,F,F,F,F,F,F,F,F,F,F,F,F,F,F,F,F,F,F,F,F,F,F,F,F,F,F,F] rfl rfl (any_of HT_.out (by kernel_rfl)) (fun _ _ _ h => h) (Or.inl ⟨by rfl,?_⟩) ?_ ?_
              rotate_left
              ·intro w'
               go_simp
               with_reducible rfl
              rotate_left
              ·simp only [Act.put,setIfInBounds_toArray,set_cons_zero,set_cons_succ,i64_w,i32_w]
               rfl
              refine pure_ (i:=1) (N:=some 13) (v:=?_) (a':=?_) #[T,T,F,F,F,F,F,F,F,F,F,F,F,F,F,F,F,F,F,F,F,F,F,F,F,F,F,F,F,F,F,F,F,F,F] rfl rfl (any_of HT_.out (by kernel_rfl)) (fun _ _ _ h => h) (Or.inl ⟨by rfl,?_⟩) ?_ ?_
              rotate_left
              ·intro w'
               go_simp
               with_reducible rfl
              rotate_left
              ·simp only [Act.put,setIfInBounds_toArray,set_cons_zero,set_cons_succ,i64_w,i32_w]
               rfl
              refine pure_ (i:=2) (N:=some 14) (v:=?_) (a':=?_) #[T,T,T,F,F,F,F,F,F,F,F,F,F,F,F,F,F,F,F,F,F,F,F,F,F,F,F,F,F,F,F,F,F,F,F] rfl rfl (any_of HT_.out (by kernel_rfl)) (fun _ _ _ h => h) (Or.inl ⟨by rfl,?_⟩) ?_ ?_
              rotate_left
              ·intro w'
               go_simp
               with_reducible rfl
              rotate_left
              ·simp only [Act.put,setIfInBounds_toArray,set_cons_zero,set_cons_succ,i64_w,i32_w]
               rfl
              refine pure_ (i:=3) (N:=some 15) (v:=?_) (a':=?_) #[T,T,T,T,F,F,F,F,F,F,F,F,F,F,F,F,F,F,F,F,F,F,F,F,F,F,F,F,F,F,F,F,F,F,F] rfl rfl (any_of HT_.out (by kernel_rfl)) (fun _ _ _ h => h) (Or.inl ⟨by rfl,?_⟩) ?_ ?_
              rotate_left
              ·intro w'
               go_simp
               with_reducible rfl
              rotate_left
              ·simp only [Act.put,setIfInBounds_toArray,set_cons_zero,set_cons_succ,i64_w,i32_w]
               rfl
              refine take_ (i:=4) (N:=some 16) (v:=?_) (a':=?_) #[T,T,T,T,T,F,F,F,F,F,F,F,F,F,F,F,F,F,F,F,F,F,F,F,F,F,F,F,F,F,F,F,F,F,F] rfl rfl (take_ofW HT_.out HW_.out (by kernel_rfl)) (fun _ _ _ h => h) (Or.inl ⟨by rfl,?_⟩) hHeld ?_ ?_
              rotate_left
              ·rintro w' ⟨s0,s1,s2,s3,s4,s5,s6,s7,s8,s9,s10,s11,s12,s13⟩
               go_simp
               with_reducible rfl
              rotate_left
              ·simp only [Act.put,setIfInBounds_toArray,set_cons_zero,set_cons_succ,i64_w,i32_w]
               rfl
              refine one_ (i:=5) (N:=some 17) #[T,T,T,T,T,T,F,F,F,F,F,F,F,F,F,F,F,F,F,F,F,F,F,F,F,F,F,F,F,F,F,F,F,F,F] rfl rfl (one_of HT_.out (by kernel_rfl)) (by decide) (fun K hK => ?_)
              refine goes_ Tryd.func89 (by kernel_rfl) rfl #[.int .i64 ((rd_T88 l0 x7_1).f0)] (by rfl) rfl rfl (by (try simp only [List.map_toArray,List.map_cons,List.map_nil]); first | done | rfl | (simp only [List.length_drop,List.length_take]; rfl)) ?_
              with_reducible refine (impl_isMoment.calls ((rd_T88 l0 x7_1).f0) true _ A10.out).mono ?_
              rintro e w' ⟨rfl,⟨nd,rfl⟩⟩
              refine ⟨_,rfl,?_⟩
              refine hK.out _ _ ⟨(blk_cell BK250.out 0).trans rfl,(blk_cell BK250.out 1).trans rfl,(blk_cell BK250.out 2).trans rfl,(blk_cell BK250.out 3).trans rfl,(blk_cell BK250.out 4).trans rfl,(blk_cell BK250.out 5).trans rfl,(blk_cell BK250.out 6).trans rfl,((HB.out.cell (bl_ w _ hw253_0)).trans hw253_0),((HB.out.cell (bl_ w _ hw253_1)).trans hw253_1),((HB.out.cell (bl_ w _ hw253_2)).trans hw253_2),((HB.out.cell (bl_ w _ hw253_3)).trans hw253_3),((HB.out.cell (bl_ w _ hw253_4)).trans hw253_4),((HB.out.cell (bl_ w _ hw253_5)).trans hw253_5),((HB.out.cell (bl_ w _ hw253_6)).trans hw253_6)⟩ (fun hHeld => ?_)
              clear hK K
              refine norm_ (a':=?_) ?_ ?_
              rotate_left
              ·show Act.put _ (some 17) _ = _
               simp only [Act.put,setIfInBounds_toArray,set_cons_zero,set_cons_succ,i64_w,i32_w]
               rfl
              refine pure_ (i:=6) (N:=some 18) (v:=?_) (a':=?_) #[T,T,T,T,T,T,T,F,F,F,F,F,F,F,F,F,F,F,F,F,F,F,F,F,F,F,F,F,F,F,F,F,F,F,F] rfl rfl (any_of HT_.out (by kernel_rfl)) (fun _ _ _ h => h) (Or.inl ⟨by rfl,?_⟩) ?_ ?_
              rotate_left
              ·intro w'
               go_simp
               with_reducible rfl
              rotate_left
              ·simp only [Act.put,setIfInBounds_toArray,set_cons_zero,set_cons_succ,i64_w,i32_w]
               rfl
              refine pure_ (i:=7) (N:=some 19) (v:=?_) (a':=?_) #[T,T,T,T,T,T,T,T,F,F,F,F,F,F,F,F,F,F,F,F,F,F,F,F,F,F,F,F,F,F,F,F,F,F,F] rfl rfl (any_of HT_.out (by kernel_rfl)) (fun _ _ _ h => h) (Or.inl ⟨by rfl,?_⟩) ?_ ?_
              rotate_left
              ·intro w'
               go_simp
               with_reducible rfl
              rotate_left
              ·simp only [Act.put,setIfInBounds_toArray,set_cons_zero,set_cons_succ,i64_w,i32_w]
               rfl
              refine pure_ (i:=8) (N:=some 20) (v:=?_) (a':=?_) #[T,T,T,T,T,T,T,T,T,F,F,F,F,F,F,F,F,F,F,F,F,F,F,F,F,F,F,F,F,F,F,F,F,F,F] rfl rfl (any_of HT_.out (by kernel_rfl)) (fun _ _ _ h => h) (Or.inl ⟨by rfl,?_⟩) ?_ ?_
              rotate_left
              ·intro w'
               go_simp
               with_reducible rfl
              rotate_left
              ·simp only [Act.put,setIfInBounds_toArray,set_cons_zero,set_cons_succ,i64_w,i32_w]
               rfl
              refine pure_ (i:=9) (N:=some 21) (v:=?_) (a':=?_) #[T,T,T,T,T,T,T,T,T,T,F,F,F,F,F,F,F,F,F,F,F,F,F,F,F,F,F,F,F,F,F,F,F,F,F] rfl rfl (any_of HT_.out (by kernel_rfl)) (fun _ _ _ h => h) (Or.inl ⟨by rfl,?_⟩) ?_ ?_
              rotate_left
              ·intro w'
               go_simp
               with_reducible rfl
              rotate_left
              ·simp only [Act.put,setIfInBounds_toArray,set_cons_zero,set_cons_succ,i64_w,i32_w]
               rfl
              refine take_ (i:=10) (N:=some 22) (v:=?_) (a':=?_) #[T,T,T,T,T,T,T,T,T,T,T,F,F,F,F,F,F,F,F,F,F,F,F,F,F,F,F,F,F,F,F,F,F,F,F] rfl rfl (take_ofW HT_.out HW_.out (by kernel_rfl)) (fun _ _ _ h => h) (Or.inl ⟨by rfl,?_⟩) hHeld ?_ ?_
              rotate_left
              ·rintro w' ⟨s0,s1,s2,s3,s4,s5,s6,s7,s8,s9,s10,s11,s12,s13⟩
               go_simp
               with_reducible rfl
              rotate_left
              ·simp only [Act.put,setIfInBounds_toArray,set_cons_zero,set_cons_succ,i64_w,i32_w]
               rfl
              refine one_ (i:=11) (N:=some 23) #[T,T,T,T,T,T,T,T,T,T,T,T,F,F,F,F,F,F,F,F,F,F,F,F,F,F,F,F,F,F,F,F,F,F,F] rfl rfl (one_of HT_.out (by kernel_rfl)) (by decide) (fun K hK => ?_)
              refine goes_ Tryd.func103 (by kernel_rfl) rfl #[.agg #[.int .i64 ((rd_T88 l0 x7_1).f1.f0),.int .i64 ((rd_T88 l0 x7_1).f1.f1),.int .i64 ((rd_T88 l0 x7_1).f1.f2),.int .i64 ((rd_T88 l0 x7_1).f1.f3),.int .i64 ((rd_T88 l0 x7_1).f1.f4),.int .i64 ((rd_T88 l0 x7_1).f1.f5)]] (by rfl) rfl rfl (by (try simp only [List.map_toArray,List.map_cons,List.map_nil]); first | done | rfl | (simp only [List.length_drop,List.length_take]; rfl)) ?_
              with_reducible refine (impl_AggOK.calls ((rd_T88 l0 x7_1).f1.f0) ((rd_T88 l0 x7_1).f1.f1) ((rd_T88 l0 x7_1).f1.f2) ((rd_T88 l0 x7_1).f1.f3) ((rd_T88 l0 x7_1).f1.f4) ((rd_T88 l0 x7_1).f1.f5) true _ A12.out).mono ?_
              rintro e w29 ⟨rfl,hb⟩
              refine ⟨_,rfl,?_⟩
              have n0_ := Aside0.mk (blk_below (g:=gb250) (o:=.cells #[.int .i64 ((rd_T88 l0 x7_1).f0),.int .i64 ((rd_T88 l0 x7_1).f1.f0),.int .i64 ((rd_T88 l0 x7_1).f1.f1),.int .i64 ((rd_T88 l0 x7_1).f1.f2),.int .i64 ((rd_T88 l0 x7_1).f1.f3),.int .i64 ((rd_T88 l0 x7_1).f1.f4),.int .i64 ((rd_T88 l0 x7_1).f1.f5)] 88 (0,0)) (by (with_reducible repeat (first | refine blk_drewN ?_ _ | refine blk_drew ?_ | refine blk_alloc ?_ _)); exact BK250.out) hb)
              have n1_ := Aside0.mk (below_step (by repeat (first | (with_reducible first | exact HB.out | apply below_alloc | apply pw_below_drewN | apply below_drew1 | refine below_set ?_ GE250.out) | exact HB.out)) hb)
              clear BK250
              clear HB
              have BK250 := n0_
              have HB := n1_
              clear n0_ n1_
              (try clear hb)
              (try clear hb2)
              (try clear hk)
              (try clear hi)
              refine hK.out _ _ ⟨(blk_cell BK250.out 0).trans rfl,(blk_cell BK250.out 1).trans rfl,(blk_cell BK250.out 2).trans rfl,(blk_cell BK250.out 3).trans rfl,(blk_cell BK250.out 4).trans rfl,(blk_cell BK250.out 5).trans rfl,(blk_cell BK250.out 6).trans rfl,((HB.out.cell (bl_ w _ hw253_0)).trans hw253_0),((HB.out.cell (bl_ w _ hw253_1)).trans hw253_1),((HB.out.cell (bl_ w _ hw253_2)).trans hw253_2),((HB.out.cell (bl_ w _ hw253_3)).trans hw253_3),((HB.out.cell (bl_ w _ hw253_4)).trans hw253_4),((HB.out.cell (bl_ w _ hw253_5)).trans hw253_5),((HB.out.cell (bl_ w _ hw253_6)).trans hw253_6)⟩ (fun hHeld => ?_)
              clear hK K
              refine norm_ (a':=?_) ?_ ?_
              rotate_left
              ·show Act.put _ (some 23) _ = _
               simp only [Act.put,setIfInBounds_toArray,set_cons_zero,set_cons_succ,i64_w,i32_w]
               rfl
              refine pure_ (i:=12) (N:=some 24) (v:=?_) (a':=?_) #[T,T,T,T,T,T,T,T,T,T,T,T,T,F,F,F,F,F,F,F,F,F,F,F,F,F,F,F,F,F,F,F,F,F,F] rfl rfl (any_of HT_.out (by kernel_rfl)) (fun _ _ _ h => h) (Or.inl ⟨by rfl,?_⟩) ?_ ?_
              rotate_left
              ·intro w'
               go_simp
               with_reducible rfl
              rotate_left
              ·simp only [Act.put,setIfInBounds_toArray,set_cons_zero,set_cons_succ,i64_w,i32_w]
               rfl
              refine pure_ (i:=13) (N:=some 25) (v:=?_) (a':=?_) #[T,T,T,T,T,T,T,T,T,T,T,T,T,T,F,F,F,F,F,F,F,F,F,F,F,F,F,F,F,F,F,F,F,F,F] rfl rfl (any_of HT_.out (by kernel_rfl)) (fun _ _ _ h => h) (Or.inl ⟨by rfl,?_⟩) ?_ ?_
              rotate_left
              ·intro w'
               go_simp
               with_reducible rfl
              rotate_left
              ·simp only [Act.put,setIfInBounds_toArray,set_cons_zero,set_cons_succ,i64_w,i32_w]
               rfl
              refine pure_ (i:=14) (N:=some 26) (v:=?_) (a':=?_) #[T,T,T,T,T,T,T,T,T,T,T,T,T,T,T,F,F,F,F,F,F,F,F,F,F,F,F,F,F,F,F,F,F,F,F] rfl rfl (any_of HT_.out (by kernel_rfl)) (fun _ _ _ h => h) (Or.inl ⟨by rfl,?_⟩) ?_ ?_
              rotate_left
              ·intro w'
               go_simp
               with_reducible rfl
              rotate_left
              ·simp only [Act.put,setIfInBounds_toArray,set_cons_zero,set_cons_succ,i64_w,i32_w]
               rfl
              refine pure_ (i:=15) (N:=some 27) (v:=?_) (a':=?_) #[T,T,T,T,T,T,T,T,T,T,T,T,T,T,T,T,F,F,F,F,F,F,F,F,F,F,F,F,F,F,F,F,F,F,F] rfl rfl (any_of HT_.out (by kernel_rfl)) (fun _ _ _ h => h) (Or.inl ⟨by rfl,?_⟩) ?_ ?_
              rotate_left
              ·intro w'
               go_simp
               with_reducible rfl
              rotate_left
              ·simp only [Act.put,setIfInBounds_toArray,set_cons_zero,set_cons_succ,i64_w,i32_w]
               rfl
              refine pure_ (i:=16) (N:=some 28) (v:=?_) (a':=?_) #[T,T,T,T,T,T,T,T,T,T,T,T,T,T,T,T,T,F,F,F,F,F,F,F,F,F,F,F,F,F,F,F,F,F,F] rfl rfl (any_of HT_.out (by kernel_rfl)) (fun _ _ _ h => h) (Or.inl ⟨by rfl,?_⟩) ?_ ?_
              rotate_left
              ·intro w'
               go_simp
               with_reducible rfl
              rotate_left
              ·simp only [Act.put,setIfInBounds_toArray,set_cons_zero,set_cons_succ,i64_w,i32_w]
               rfl
              refine take_ (i:=17) (N:=some 29) (v:=?_) (a':=?_) #[T,T,T,T,T,T,T,T,T,T,T,T,T,T,T,T,T,T,F,F,F,F,F,F,F,F,F,F,F,F,F,F,F,F,F] rfl rfl (take_ofW HT_.out HW_.out (by kernel_rfl)) (fun _ _ _ h => h) (Or.inl ⟨by rfl,?_⟩) hHeld ?_ ?_
              rotate_left
              ·rintro w' ⟨s0,s1,s2,s3,s4,s5,s6,s7,s8,s9,s10,s11,s12,s13⟩
               go_simp
               with_reducible rfl
              rotate_left
              ·simp only [Act.put,setIfInBounds_toArray,set_cons_zero,set_cons_succ,i64_w,i32_w]
               rfl
              refine pure_ (i:=18) (N:=some 30) (v:=?_) (a':=?_) #[T,T,T,T,T,T,T,T,T,T,T,T,T,T,T,T,T,T,T,F,F,F,F,F,F,F,F,F,F,F,F,F,F,F,F] rfl rfl (any_of HT_.out (by kernel_rfl)) (fun _ _ _ h => h) (Or.inl ⟨by rfl,?_⟩) ?_ ?_
              rotate_left
              ·intro w'
               go_simp
               with_reducible rfl
              rotate_left
              ·simp only [Act.put,setIfInBounds_toArray,set_cons_zero,set_cons_succ,i64_w,i32_w]
               rfl
              refine pure_ (i:=19) (N:=some 31) (v:=?_) (a':=?_) #[T,T,T,T,T,T,T,T,T,T,T,T,T,T,T,T,T,T,T,T,F,F,F,F,F,F,F,F,F,F,F,F,F,F,F] rfl rfl (any_of HT_.out (by kernel_rfl)) (fun _ _ _ h => h) (Or.inl ⟨by rfl,?_⟩) ?_ ?_
              rotate_left
              ·intro w'
               go_simp
               with_reducible rfl
              rotate_left
              ·simp only [Act.put,setIfInBounds_toArray,set_cons_zero,set_cons_succ,i64_w,i32_w]
               rfl
              refine pure_ (i:=20) (N:=some 32) (v:=?_) (a':=?_) #[T,T,T,T,T,T,T,T,T,T,T,T,T,T,T,T,T,T,T,T,T,F,F,F,F,F,F,F,F,F,F,F,F,F,F] rfl rfl (any_of HT_.out (by kernel_rfl)) (fun _ _ _ h => h) (Or.inl ⟨by rfl,?_⟩) ?_ ?_
              rotate_left
              ·intro w'
               go_simp
               with_reducible rfl
              rotate_left
              ·simp only [Act.put,setIfInBounds_toArray,set_cons_zero,set_cons_succ,i64_w,i32_w]
               rfl
              refine pure_ (i:=21) (N:=some 33) (v:=?_) (a':=?_) #[T,T,T,T,T,T,T,T,T,T,T,T,T,T,T,T,T,T,T,T,T,T,F,F,F,F,F,F,F,F,F,F,F,F,F] rfl rfl (any_of HT_.out (by kernel_rfl)) (fun _ _ _ h => h) (Or.inl ⟨by rfl,?_⟩) ?_ ?_
              rotate_left
              ·intro w'
               go_simp
               with_reducible rfl
              rotate_left
              ·simp only [Act.put,setIfInBounds_toArray,set_cons_zero,set_cons_succ,i64_w,i32_w]
               rfl
              refine pure_ (i:=22) (N:=some 34) (v:=?_) (a':=?_) #[T,T,T,T,T,T,T,T,T,T,T,T,T,T,T,T,T,T,T,T,T,T,T,F,F,F,F,F,F,F,F,F,F,F,F] rfl rfl (any_of HT_.out (by kernel_rfl)) (fun _ _ _ h => h) (Or.inl ⟨by rfl,?_⟩) ?_ ?_
              rotate_left
              ·intro w'
               go_simp
               with_reducible rfl
              rotate_left
              ·simp only [Act.put,setIfInBounds_toArray,set_cons_zero,set_cons_succ,i64_w,i32_w]
               rfl
              refine pure_ (i:=23) (N:=some 35) (v:=?_) (a':=?_) #[T,T,T,T,T,T,T,T,T,T,T,T,T,T,T,T,T,T,T,T,T,T,T,T,F,F,F,F,F,F,F,F,F,F,F] rfl rfl (any_of HT_.out (by kernel_rfl)) (fun _ _ _ h => h) (Or.inl ⟨by rfl,?_⟩) ?_ ?_
              rotate_left
              ·intro w'
               go_simp
               with_reducible rfl
              rotate_left
              ·simp only [Act.put,setIfInBounds_toArray,set_cons_zero,set_cons_succ,i64_w,i32_w]
               rfl
              refine pure_ (i:=24) (N:=some 36) (v:=?_) (a':=?_) #[T,T,T,T,T,T,T,T,T,T,T,T,T,T,T,T,T,T,T,T,T,T,T,T,T,F,F,F,F,F,F,F,F,F,F] rfl rfl (any_of HT_.out (by kernel_rfl)) (fun _ _ _ h => h) (Or.inl ⟨by rfl,?_⟩) ?_ ?_
              rotate_left
              ·intro w'
               go_simp
               with_reducible rfl
              rotate_left
              ·simp only [Act.put,setIfInBounds_toArray,set_cons_zero,set_cons_succ,i64_w,i32_w]
               rfl
              refine pure_ (i:=26) (N:=some 38) (v:=?_) (a':=?_) #[T,T,T,T,T,T,T,T,T,T,T,T,T,T,T,T,T,T,T,T,T,T,T,T,T,F,T,F,F,F,F,F,F,F,F] rfl rfl (any_of HT_.out (by kernel_rfl)) (fun _ _ _ h => h) (Or.inl ⟨by rfl,?_⟩) ?_ ?_
              rotate_left
              ·intro w'
               go_simp
               with_reducible rfl
              rotate_left
              ·simp only [Act.put,setIfInBounds_toArray,set_cons_zero,set_cons_succ,i64_w,i32_w]
               rfl
              refine pure_ (i:=27) (N:=some 39) (v:=?_) (a':=?_) #[T,T,T,T,T,T,T,T,T,T,T,T,T,T,T,T,T,T,T,T,T,T,T,T,T,F,T,T,F,F,F,F,F,F,F] rfl rfl (any_of HT_.out (by kernel_rfl)) (fun _ _ _ h => h) (Or.inl ⟨by rfl,?_⟩) ?_ ?_
              rotate_left
              ·intro w'
               go_simp
               with_reducible rfl
              rotate_left
              ·simp only [Act.put,setIfInBounds_toArray,set_cons_zero,set_cons_succ,i64_w,i32_w]
               rfl
              refine pure_ (i:=28) (N:=some 40) (v:=?_) (a':=?_) #[T,T,T,T,T,T,T,T,T,T,T,T,T,T,T,T,T,T,T,T,T,T,T,T,T,F,T,T,T,F,F,F,F,F,F] rfl rfl (any_of HT_.out (by kernel_rfl)) (fun _ _ _ h => h) (Or.inl ⟨by rfl,?_⟩) ?_ ?_
              rotate_left
              ·intro w'
               go_simp
               with_reducible rfl
              rotate_left
              ·simp only [Act.put,setIfInBounds_toArray,set_cons_zero,set_cons_succ,i64_w,i32_w]
               rfl
              refine pure_ (i:=29) (N:=some 41) (v:=?_) (a':=?_) #[T,T,T,T,T,T,T,T,T,T,T,T,T,T,T,T,T,T,T,T,T,T,T,T,T,F,T,T,T,T,F,F,F,F,F] rfl rfl (any_of HT_.out (by kernel_rfl)) (fun _ _ _ h => h) (Or.inl ⟨by rfl,?_⟩) ?_ ?_
              rotate_left
              ·intro w'
               go_simp
               with_reducible rfl
              rotate_left
              ·simp only [Act.put,setIfInBounds_toArray,set_cons_zero,set_cons_succ,i64_w,i32_w]
               rfl
              refine pure_ (i:=30) (N:=some 42) (v:=?_) (a':=?_) #[T,T,T,T,T,T,T,T,T,T,T,T,T,T,T,T,T,T,T,T,T,T,T,T,T,F,T,T,T,T,T,F,F,F,F] rfl rfl (any_of HT_.out (by kernel_rfl)) (fun _ _ _ h => h) (Or.inl ⟨by rfl,?_⟩) ?_ ?_
              rotate_left
              ·intro w'
               go_simp
               with_reducible rfl
              rotate_left
              ·simp only [Act.put,setIfInBounds_toArray,set_cons_zero,set_cons_succ,i64_w,i32_w]
               rfl
              refine take_ (i:=25) (N:=some 37) (v:=?_) (a':=?_) #[T,T,T,T,T,T,T,T,T,T,T,T,T,T,T,T,T,T,T,T,T,T,T,T,T,T,T,T,T,T,T,F,F,F,F] rfl rfl (take_ofW HT_.out HW_.out (by kernel_rfl)) (fun _ _ _ h => h) (Or.inl ⟨by rfl,?_⟩) hHeld ?_ ?_
              rotate_left
              ·rintro w' ⟨s0,s1,s2,s3,s4,s5,s6,s7,s8,s9,s10,s11,s12,s13⟩
               go_simp
               with_reducible rfl
              rotate_left
              ·simp only [Act.put,setIfInBounds_toArray,set_cons_zero,set_cons_succ,i64_w,i32_w]
               rfl
              refine take_ (i:=31) (N:=some 43) (v:=?_) (a':=?_) #[T,T,T,T,T,T,T,T,T,T,T,T,T,T,T,T,T,T,T,T,T,T,T,T,T,T,T,T,T,T,T,T,F,F,F] rfl rfl (take_ofW HT_.out HW_.out (by kernel_rfl)) (fun _ _ _ h => h) (Or.inl ⟨by rfl,?_⟩) hHeld ?_ ?_
              rotate_left
              ·rintro w' ⟨s0,s1,s2,s3,s4,s5,s6,s7,s8,s9,s10,s11,s12,s13⟩
               go_simp
               with_reducible rfl
              rotate_left
              ·simp only [Act.put,setIfInBounds_toArray,set_cons_zero,set_cons_succ,i64_w,i32_w]
               rfl
              refine pure_ (i:=32) (N:=some 44) (v:=?_) (a':=?_) #[T,T,T,T,T,T,T,T,T,T,T,T,T,T,T,T,T,T,T,T,T,T,T,T,T,T,T,T,T,T,T,T,T,F,F] rfl rfl (any_of HT_.out (by kernel_rfl)) (fun _ _ _ h => h) (Or.inl ⟨by rfl,?_⟩) ?_ ?_
              rotate_left
              ·intro w'
               go_simp
               with_reducible rfl
              rotate_left
              ·simp only [Act.put,setIfInBounds_toArray,set_cons_zero,set_cons_succ,i64_w,i32_w]
               rfl
              refine pure_ (i:=33) (N:=some 45) (v:=?_) (a':=?_) #[T,T,T,T,T,T,T,T,T,T,T,T,T,T,T,T,T,T,T,T,T,T,T,T,T,T,T,T,T,T,T,T,T,T,F] rfl rfl (any_of HT_.out (by kernel_rfl)) (fun _ _ _ h => h) (Or.inl ⟨by rfl,?_⟩) ?_ ?_
              rotate_left
              ·intro w'
               go_simp
               with_reducible rfl
              rotate_left
              ·simp only [Act.put,setIfInBounds_toArray,set_cons_zero,set_cons_succ,i64_w,i32_w]
               rfl
              refine pure_ (i:=34) (N:=some 46) (v:=?_) (a':=?_) #[T,T,T,T,T,T,T,T,T,T,T,T,T,T,T,T,T,T,T,T,T,T,T,T,T,T,T,T,T,T,T,T,T,T,T] rfl rfl (any_of HT_.out (by kernel_rfl)) (fun _ _ _ h => h) (Or.inl ⟨by rfl,?_⟩) ?_ ?_
              rotate_left
              ·intro w'
               go_simp
               with_reducible rfl
              rotate_left
              ·simp only [Act.put,setIfInBounds_toArray,set_cons_zero,set_cons_succ,i64_w,i32_w]
               rfl
              refine done_ (done_of HT_.out (by kernel_rfl)) ?_
              try go_wp2
              go_ret
              exact ⟨by first | rfl | (simp only [i64_w,i32_w] <;> rfl) | (simp [errW_none,errW_some] <;> rfl) | (simp only [← hji21]; first | rfl | (simp [errW_none,errW_some] <;> rfl)) | (simp [*,errW_none,errW_some] <;> rfl),by repeat (first | (with_reducible first | exact HB.out | apply below_alloc | apply pw_below_drewN | apply below_drew1 | refine below_set ?_ GE250.out) | exact HB.out)⟩
             ·rw [if_neg c24] at H
              have c24b0 : decide (((rd_T88 l0 x7_1).f0) ≤ ((rd_T88 l0 (ji21)).f0)) = false := decide_eq_false c24
              clear c24
              have H' := Aside0.mk H
              clear H
              have p249 : 0 ≤ (x7_1 : Int) := of_decide_eq_true (by first | (with_reducible assumption) | assumption)
              have q249 : x7_1 < (l0.length : Int) := of_decide_eq_true (by first | (with_reducible assumption) | assumption)
              obtain ⟨ad249,e249,hx249_0,hx249_1,hx249_2,hx249_3,hx249_4,hx249_5,hx249_6⟩ := at_T88 HR0.out x7_1 p249 q249
              cases e249
              replace hx249_0 := (HB.out.cell (bl_ w _ hx249_0)).trans hx249_0
              replace hx249_1 := (HB.out.cell (bl_ w _ hx249_1)).trans hx249_1
              replace hx249_2 := (HB.out.cell (bl_ w _ hx249_2)).trans hx249_2
              replace hx249_3 := (HB.out.cell (bl_ w _ hx249_3)).trans hx249_3
              replace hx249_4 := (HB.out.cell (bl_ w _ hx249_4)).trans hx249_4
              replace hx249_5 := (HB.out.cell (bl_ w _ hx249_5)).trans hx249_5
              replace hx249_6 := (HB.out.cell (bl_ w _ hx249_6)).trans hx249_6
              replace p249 := eq_true p249
              replace q249 := eq_true q249
              try go_wp2_with (first | ((with_reducible refine gate_dst (N:=4) rfl ?_); refine box_event ?hg (N:=4) ?hd (cs := #[.int .i64 0,.int .i64 0,.int .i64 0,.int .i64 0,.int .i64 0,.int .i64 0,.int .i64 0]) (t:=88) ?hr ?_; (case hd => rfl); (case hg => rfl); (case hr => first | (go_simp; done) | (go_simp; rfl)); intro gb250 hg w30 hbox hb; have n0_ := Aside0.mk (below_step (by repeat (first | (with_reducible first | exact HB.out | apply below_alloc | apply pw_below_drewN | apply below_drew1) | exact HB.out)) hb); have n1_ := Aside0.mk (hbox); have n2_ := Aside0.mk ((by rw [hg]; exact (below_size (by repeat (first | (with_reducible first | exact HB.out | apply below_alloc | apply pw_below_drewN | apply below_drew1) | exact HB.out))) : w.heap.size ≤ gb250)); have n3_ := Aside0.mk ((by rw [hg]; exact (below_size (by repeat (first | (with_reducible first | exact HB.out | apply below_alloc | apply pw_below_drewN | apply below_drew1) | exact HB.out))) : w.heap.size ≤ gb250)); clear HB; have HB := n0_; have BK250 := n1_; have GW250 := n2_; have GE250 := n3_; clear n0_ n1_ n2_ n3_; clear hb hbox hg; have hcz31_0 : w30.cell? ⟨gb250,0,none⟩ = some (.int .i64 0) := (blk_cell BK250.out 0).trans rfl; have hcz31_1 : w30.cell? ⟨gb250,1,none⟩ = some (.int .i64 0) := (blk_cell BK250.out 1).trans rfl; have hcz31_2 : w30.cell? ⟨gb250,2,none⟩ = some (.int .i64 0) := (blk_cell BK250.out 2).trans rfl; have hcz31_3 : w30.cell? ⟨gb250,3,none⟩ = some (.int .i64 0) := (blk_cell BK250.out 3).trans rfl; have hcz31_4 : w30.cell? ⟨gb250,4,none⟩ = some (.int .i64 0) := (blk_cell BK250.out 4).trans rfl; have hcz31_5 : w30.cell? ⟨gb250,5,none⟩ = some (.int .i64 0) := (blk_cell BK250.out 5).trans rfl; have hcz31_6 : w30.cell? ⟨gb250,6,none⟩ = some (.int .i64 0) := (blk_cell BK250.out 6).trans rfl; have hfz31_0 := blk_frozen BK250.out 0; have hfz31_1 := blk_frozen BK250.out 1; have hfz31_2 := blk_frozen BK250.out 2; have hfz31_3 := blk_frozen BK250.out 3; have hfz31_4 := blk_frozen BK250.out 4; have hfz31_5 := blk_frozen BK250.out 5; have hfz31_6 := blk_frozen BK250.out 6))
              have n0_ : Aside0 ((((((((w30.setCell ⟨gb250,0,none⟩ (.int .i64 ((rd_T88 l0 x7_1).f0))).setCell ⟨gb250,1,none⟩ (.int .i64 ((rd_T88 l0 x7_1).f1.f0))).setCell ⟨gb250,2,none⟩ (.int .i64 ((rd_T88 l0 x7_1).f1.f1))).setCell ⟨gb250,3,none⟩ (.int .i64 ((rd_T88 l0 x7_1).f1.f2))).setCell ⟨gb250,4,none⟩ (.int .i64 ((rd_T88 l0 x7_1).f1.f3))).setCell ⟨gb250,5,none⟩ (.int .i64 ((rd_T88 l0 x7_1).f1.f4))).setCell ⟨gb250,6,none⟩ (.int .i64 ((rd_T88 l0 x7_1).f1.f5))).heap[gb250]? = some (.cells #[.int .i64 ((rd_T88 l0 x7_1).f0),.int .i64 ((rd_T88 l0 x7_1).f1.f0),.int .i64 ((rd_T88 l0 x7_1).f1.f1),.int .i64 ((rd_T88 l0 x7_1).f1.f2),.int .i64 ((rd_T88 l0 x7_1).f1.f3),.int .i64 ((rd_T88 l0 x7_1).f1.f4),.int .i64 ((rd_T88 l0 x7_1).f1.f5)] 88 (0,0))) := ⟨by (with_reducible repeat (first | refine blk_drewN ?_ _ | refine blk_drew ?_ | refine blk_alloc ?_ _)); refine blk_put (cs := #[.int .i64 ((rd_T88 l0 x7_1).f0),.int .i64 ((rd_T88 l0 x7_1).f1.f0),.int .i64 ((rd_T88 l0 x7_1).f1.f1),.int .i64 ((rd_T88 l0 x7_1).f1.f2),.int .i64 ((rd_T88 l0 x7_1).f1.f3),.int .i64 ((rd_T88 l0 x7_1).f1.f4),.int .i64 0]) ?_ 6 _ rfl; (with_reducible repeat (first | refine blk_drewN ?_ _ | refine blk_drew ?_ | refine blk_alloc ?_ _)); refine blk_put (cs := #[.int .i64 ((rd_T88 l0 x7_1).f0),.int .i64 ((rd_T88 l0 x7_1).f1.f0),.int .i64 ((rd_T88 l0 x7_1).f1.f1),.int .i64 ((rd_T88 l0 x7_1).f1.f2),.int .i64 ((rd_T88 l0 x7_1).f1.f3),.int .i64 0,.int .i64 0]) ?_ 5 _ rfl; (with_reducible repeat (first | refine blk_drewN ?_ _ | refine blk_drew ?_ | refine blk_alloc ?_ _)); refine blk_put (cs := #[.int .i64 ((rd_T88 l0 x7_1).f0),.int .i64 ((rd_T88 l0 x7_1).f1.f0),.int .i64 ((rd_T88 l0 x7_1).f1.f1),.int .i64 ((rd_T88 l0 x7_1).f1.f2),.int .i64 0,.int .i64 0,.int .i64 0]) ?_ 4 _ rfl; (with_reducible repeat (first | refine blk_drewN ?_ _ | refine blk_drew ?_ | refine blk_alloc ?_ _)); refine blk_put (cs := #[.int .i64 ((rd_T88 l0 x7_1).f0),.int .i64 ((rd_T88 l0 x7_1).f1.f0),.int .i64 ((rd_T88 l0 x7_1).f1.f1),.int .i64 0,.int .i64 0,.int .i64 0,.int .i64 0]) ?_ 3 _ rfl; (with_reducible repeat (first | refine blk_drewN ?_ _ | refine blk_drew ?_ | refine blk_alloc ?_ _)); refine blk_put (cs := #[.int .i64 ((rd_T88 l0 x7_1).f0),.int .i64 ((rd_T88 l0 x7_1).f1.f0),.int .i64 0,.int .i64 0,.int .i64 0,.int .i64 0,.int .i64 0]) ?_ 2 _ rfl; (with_reducible repeat (first | refine blk_drewN ?_ _ | refine blk_drew ?_ | refine blk_alloc ?_ _)); refine blk_put (cs := #[.int .i64 ((rd_T88 l0 x7_1).f0),.int .i64 0,.int .i64 0,.int .i64 0,.int .i64 0,.int .i64 0,.int .i64 0]) ?_ 1 _ rfl; (with_reducible repeat (first | refine blk_drewN ?_ _ | refine blk_drew ?_ | refine blk_alloc ?_ _)); refine blk_put (cs := #[.int .i64 0,.int .i64 0,.int .i64 0,.int .i64 0,.int .i64 0,.int .i64 0,.int .i64 0]) ?_ 0 _ rfl; (with_reducible repeat (first | refine blk_drewN ?_ _ | refine blk_drew ?_ | refine blk_alloc ?_ _)); exact BK250.out⟩
              have n1_ : Aside0 (Below w.heap.size w (((((((w30.setCell ⟨gb250,0,none⟩ (.int .i64 ((rd_T88 l0 x7_1).f0))).setCell ⟨gb250,1,none⟩ (.int .i64 ((rd_T88 l0 x7_1).f1.f0))).setCell ⟨gb250,2,none⟩ (.int .i64 ((rd_T88 l0 x7_1).f1.f1))).setCell ⟨gb250,3,none⟩ (.int .i64 ((rd_T88 l0 x7_1).f1.f2))).setCell ⟨gb250,4,none⟩ (.int .i64 ((rd_T88 l0 x7_1).f1.f3))).setCell ⟨gb250,5,none⟩ (.int .i64 ((rd_T88 l0 x7_1).f1.f4))).setCell ⟨gb250,6,none⟩ (.int .i64 ((rd_T88 l0 x7_1).f1.f5)))) := ⟨by repeat (first | (with_reducible first | exact HB.out | apply below_alloc | apply pw_below_drewN | apply below_drew1 | refine below_set ?_ GE250.out) | exact HB.out)⟩
              (try clear BK250)
              (try clear HB)
              generalize (((((((w30.setCell ⟨gb250,0,none⟩ (.int .i64 ((rd_T88 l0 x7_1).f0))).setCell ⟨gb250,1,none⟩ (.int .i64 ((rd_T88 l0 x7_1).f1.f0))).setCell ⟨gb250,2,none⟩ (.int .i64 ((rd_T88 l0 x7_1).f1.f1))).setCell ⟨gb250,3,none⟩ (.int .i64 ((rd_T88 l0 x7_1).f1.f2))).setCell ⟨gb250,4,none⟩ (.int .i64 ((rd_T88 l0 x7_1).f1.f3))).setCell ⟨gb250,5,none⟩ (.int .i64 ((rd_T88 l0 x7_1).f1.f4))).setCell ⟨gb250,6,none⟩ (.int .i64 ((rd_T88 l0 x7_1).f1.f5))) = w32 at n0_ n1_ ⊢
              have BK250 := n0_
              have HB := n1_
              clear n0_ n1_
              have n0_ := Aside0.mk (blk_drew BK250.out)
              have n1_ := Aside0.mk (below_drew1 HB.out)
              clear BK250
              clear HB
              have BK250 := n0_
              have HB := n1_
              clear n0_ n1_
              have p253 : 0 ≤ ((ji21) : Int) := of_decide_eq_true (by first | (with_reducible assumption) | assumption)
              have q253 : (ji21) < (l0.length : Int) := of_decide_eq_true (by first | (with_reducible assumption) | assumption)
              obtain ⟨ad253,e253,hx253_0,hx253_1,hx253_2,hx253_3,hx253_4,hx253_5,hx253_6⟩ := at_T88 HR0.out (ji21) p253 q253
              have hw253_6 := hx253_6
              have hw253_5 := hx253_5
              have hw253_4 := hx253_4
              have hw253_3 := hx253_3
              have hw253_2 := hx253_2
              have hw253_1 := hx253_1
              have hw253_0 := hx253_0
              obtain rfl : ad249 = ad253 := (by injection e253)
              replace hx253_0 := (HB.out.cell (bl_ w _ hx253_0)).trans hx253_0
              replace hx253_1 := (HB.out.cell (bl_ w _ hx253_1)).trans hx253_1
              replace hx253_2 := (HB.out.cell (bl_ w _ hx253_2)).trans hx253_2
              replace hx253_3 := (HB.out.cell (bl_ w _ hx253_3)).trans hx253_3
              replace hx253_4 := (HB.out.cell (bl_ w _ hx253_4)).trans hx253_4
              replace hx253_5 := (HB.out.cell (bl_ w _ hx253_5)).trans hx253_5
              replace hx253_6 := (HB.out.cell (bl_ w _ hx253_6)).trans hx253_6
              replace p253 := eq_true p253
              replace q253 := eq_true q253
              refine start_ (n:=35) (S:=fun w' => w'.cell? ⟨gb250,0,none⟩ = some (.int .i64 ((rd_T88 l0 x7_1).f0)) ∧ w'.cell? ⟨gb250,1,none⟩ = some (.int .i64 ((rd_T88 l0 x7_1).f1.f0)) ∧ w'.cell? ⟨gb250,2,none⟩ = some (.int .i64 ((rd_T88 l0 x7_1).f1.f1)) ∧ w'.cell? ⟨gb250,3,none⟩ = some (.int .i64 ((rd_T88 l0 x7_1).f1.f2)) ∧ w'.cell? ⟨gb250,4,none⟩ = some (.int .i64 ((rd_T88 l0 x7_1).f1.f3)) ∧ w'.cell? ⟨gb250,5,none⟩ = some (.int .i64 ((rd_T88 l0 x7_1).f1.f4)) ∧ w'.cell? ⟨gb250,6,none⟩ = some (.int .i64 ((rd_T88 l0 x7_1).f1.f5)) ∧ w'.cell? (ad249.add (((ji21)).toNat * 7)) = some (.int .i64 ((rd_T88 l0 (ji21)).f0)) ∧ w'.cell? ⟨(ad249.add (((ji21)).toNat * 7)).block,(ad249.add (((ji21)).toNat * 7)).off + 1,none⟩ = some (.int .i64 ((rd_T88 l0 (ji21)).f1.f0)) ∧ w'.cell? ⟨(ad249.add (((ji21)).toNat * 7)).block,(ad249.add (((ji21)).toNat * 7)).off + 2,none⟩ = some (.int .i64 ((rd_T88 l0 (ji21)).f1.f1)) ∧ w'.cell? ⟨(ad249.add (((ji21)).toNat * 7)).block,(ad249.add (((ji21)).toNat * 7)).off + 3,none⟩ = some (.int .i64 ((rd_T88 l0 (ji21)).f1.f2)) ∧ w'.cell? ⟨(ad249.add (((ji21)).toNat * 7)).block,(ad249.add (((ji21)).toNat * 7)).off + 4,none⟩ = some (.int .i64 ((rd_T88 l0 (ji21)).f1.f3)) ∧ w'.cell? ⟨(ad249.add (((ji21)).toNat * 7)).block,(ad249.add (((ji21)).toNat * 7)).off + 5,none⟩ = some (.int .i64 ((rd_T88 l0 (ji21)).f1.f4)) ∧ w'.cell? ⟨(ad249.add (((ji21)).toNat * 7)).block,(ad249.add (((ji21)).toNat * 7)).off + 6,none⟩ = some (.int .i64 ((rd_T88 l0 (ji21)).f1.f5))) (ds := []) #[F,F,F,F,F,F,F,F,F,F,F,F,F,F,F,F,F,F,F,F,F,F,F,F,F,F,F,F,F,F,F,F,F,F,F] (by kernel_rfl) rfl rfl ⟨(blk_cell BK250.out 0).trans rfl,(blk_cell BK250.out 1).trans rfl,(blk_cell BK250.out 2).trans rfl,(blk_cell BK250.out 3).trans rfl,(blk_cell BK250.out 4).trans rfl,(blk_cell BK250.out 5).trans rfl,(blk_cell BK250.out 6).trans rfl,((HB.out.cell (bl_ w _ hw253_0)).trans hw253_0),((HB.out.cell (bl_ w _ hw253_1)).trans hw253_1),((HB.out.cell (bl_ w _ hw253_2)).trans hw253_2),((HB.out.cell (bl_ w _ hw253_3)).trans hw253_3),((HB.out.cell (bl_ w _ hw253_4)).trans hw253_4),((HB.out.cell (bl_ w _ hw253_5)).trans hw253_5),((HB.out.cell (bl_ w _ hw253_6)).trans hw253_6)⟩ (fun hHeld => ?_); refine with_tabW impl_BucketsOK.tab4 impl_BucketsOK.bits4 (fun HT_ HW_ => ?_)
              generalize w32.drew = w33 at BK250 HB hx253_0 hx253_1 hx253_2 hx253_3 hx253_4 hx253_5 hx253_6 hHeld ⊢
              refine pure_ (i:=0) (N:=some 12) (v:=?_) (a':=?_) #[T,F,F,F,F,F,F,F,F,F,F,F,F,F,F,F,F,F,F,F,F,F,F,F,F,F,F,F,F,F,F,F,F,F,F] rfl rfl (any_of HT_.out (by kernel_rfl)) (fun _ _ _ h => h) (Or.inl ⟨by rfl,?_⟩) ?_ ?_
              rotate_left
              ·intro w'
               go_simp
               with_reducible rfl
              rotate_left
              ·simp only [Act.put,setIfInBounds_toArray,set_cons_zero,set_cons_succ,i64_w,i32_w]
               rfl
              refine pure_ (i:=1) (N:=some 13) (v:=?_) (a':=?_) #[T,T,F,F,F,F,F,F,F,F,F,F,F,F,F,F,F,F,F,F,F,F,F,F,F,F,F,F,F,F,F,F,F,F,F] rfl rfl (any_of HT_.out (by kernel_rfl)) (fun _ _ _ h => h) (Or.inl ⟨by rfl,?_⟩) ?_ ?_
              rotate_left
              ·intro w'
               go_simp
               with_reducible rfl
              rotate_left
              ·simp only [Act.put,setIfInBounds_toArray,set_cons_zero,set_cons_succ,i64_w,i32_w]
               rfl
              refine pure_ (i:=2) (N:=some 14) (v:=?_) (a':=?_) #[T,T,T,F,F,F,F,F,F,F,F,F,F,F,F,F,F,F,F,F,F,F,F,F,F,F,F,F,F,F,F,F,F,F,F] rfl rfl (any_of HT_.out (by kernel_rfl)) (fun _ _ _ h => h) (Or.inl ⟨by rfl,?_⟩) ?_ ?_
              rotate_left
              ·intro w'
               go_simp
               with_reducible rfl
              rotate_left
              ·simp only [Act.put,setIfInBounds_toArray,set_cons_zero,set_cons_succ,i64_w,i32_w]
               rfl
              refine pure_ (i:=3) (N:=some 15) (v:=?_) (a':=?_) #[T,T,T,T,F,F,F,F,F,F,F,F,F,F,F,F,F,F,F,F,F,F,F,F,F,F,F,F,F,F,F,F,F,F,F] rfl rfl (any_of HT_.out (by kernel_rfl)) (fun _ _ _ h => h) (Or.inl ⟨by rfl,?_⟩) ?_ ?_
              rotate_left
              ·intro w'
               go_simp
               with_reducible rfl
              rotate_left
              ·simp only [Act.put,setIfInBounds_toArray,set_cons_zero,set_cons_succ,i64_w,i32_w]
               rfl
              refine take_ (i:=4) (N:=some 16) (v:=?_) (a':=?_) #[T,T,T,T,T,F,F,F,F,F,F,F,F,F,F,F,F,F,F,F,F,F,F,F,F,F,F,F,F,F,F,F,F,F,F] rfl rfl (take_ofW HT_.out HW_.out (by kernel_rfl)) (fun _ _ _ h => h) (Or.inl ⟨by rfl,?_⟩) hHeld ?_ ?_
              rotate_left
              ·rintro w' ⟨s0,s1,s2,s3,s4,s5,s6,s7,s8,s9,s10,s11,s12,s13⟩
               go_simp
               with_reducible rfl
              rotate_left
              ·simp only [Act.put,setIfInBounds_toArray,set_cons_zero,set_cons_succ,i64_w,i32_w]
               rfl
              refine one_ (i:=5) (N:=some 17) #[T,T,T,T,T,T,F,F,F,F,F,F,F,F,F,F,F,F,F,F,F,F,F,F,F,F,F,F,F,F,F,F,F,F,F] rfl rfl (one_of HT_.out (by kernel_rfl)) (by decide) (fun K hK => ?_)
              refine goes_ Tryd.func89 (by kernel_rfl) rfl #[.int .i64 ((rd_T88 l0 x7_1).f0)] (by rfl) rfl rfl (by (try simp only [List.map_toArray,List.map_cons,List.map_nil]); first | done | rfl | (simp only [List.length_drop,List.length_take]; rfl)) ?_
              with_reducible refine (impl_isMoment.calls ((rd_T88 l0 x7_1).f0) true _ A10.out).mono ?_
              rintro e w' ⟨rfl,⟨nd,rfl⟩⟩
              refine ⟨_,rfl,?_⟩
              refine hK.out _ _ ⟨(blk_cell BK250.out 0).trans rfl,(blk_cell BK250.out 1).trans rfl,(blk_cell BK250.out 2).trans rfl,(blk_cell BK250.out 3).trans rfl,(blk_cell BK250.out 4).trans rfl,(blk_cell BK250.out 5).trans rfl,(blk_cell BK250.out 6).trans rfl,((HB.out.cell (bl_ w _ hw253_0)).trans hw253_0),((HB.out.cell (bl_ w _ hw253_1)).trans hw253_1),((HB.out.cell (bl_ w _ hw253_2)).trans hw253_2),((HB.out.cell (bl_ w _ hw253_3)).trans hw253_3),((HB.out.cell (bl_ w _ hw253_4)).trans hw253_4),((HB.out.cell (bl_ w _ hw253_5)).trans hw253_5),((HB.out.cell (bl_ w _ hw253_6)).trans hw253_6)⟩ (fun hHeld => ?_)
              clear hK K
              refine norm_ (a':=?_) ?_ ?_
              rotate_left
              ·show Act.put _ (some 17) _ = _
               simp only [Act.put,setIfInBounds_toArray,set_cons_zero,set_cons_succ,i64_w,i32_w]
               rfl
              refine pure_ (i:=6) (N:=some 18) (v:=?_) (a':=?_) #[T,T,T,T,T,T,T,F,F,F,F,F,F,F,F,F,F,F,F,F,F,F,F,F,F,F,F,F,F,F,F,F,F,F,F] rfl rfl (any_of HT_.out (by kernel_rfl)) (fun _ _ _ h => h) (Or.inl ⟨by rfl,?_⟩) ?_ ?_
              rotate_left
              ·intro w'
               go_simp
               with_reducible rfl
              rotate_left
              ·simp only [Act.put,setIfInBounds_toArray,set_cons_zero,set_cons_succ,i64_w,i32_w]
               rfl
              refine pure_ (i:=7) (N:=some 19) (v:=?_) (a':=?_) #[T,T,T,T,T,T,T,T,F,F,F,F,F,F,F,F,F,F,F,F,F,F,F,F,F,F,F,F,F,F,F,F,F,F,F] rfl rfl (any_of HT_.out (by kernel_rfl)) (fun _ _ _ h => h) (Or.inl ⟨by rfl,?_⟩) ?_ ?_
              rotate_left
              ·intro w'
               go_simp
               with_reducible rfl
              rotate_left
              ·simp only [Act.put,setIfInBounds_toArray,set_cons_zero,set_cons_succ,i64_w,i32_w]
               rfl
              refine pure_ (i:=8) (N:=some 20) (v:=?_) (a':=?_) #[T,T,T,T,T,T,T,T,T,F,F,F,F,F,F,F,F,F,F,F,F,F,F,F,F,F,F,F,F,F,F,F,F,F,F] rfl rfl (any_of HT_.out (by kernel_rfl)) (fun _ _ _ h => h) (Or.inl ⟨by rfl,?_⟩) ?_ ?_
              rotate_left
              ·intro w'
               go_simp
               with_reducible rfl
              rotate_left
              ·simp only [Act.put,setIfInBounds_toArray,set_cons_zero,set_cons_succ,i64_w,i32_w]
               rfl
              refine pure_ (i:=9) (N:=some 21) (v:=?_) (a':=?_) #[T,T,T,T,T,T,T,T,T,T,F,F,F,F,F,F,F,F,F,F,F,F,F,F,F,F,F,F,F,F,F,F,F,F,F] rfl rfl (any_of HT_.out (by kernel_rfl)) (fun _ _ _ h => h) (Or.inl ⟨by rfl,?_⟩) ?_ ?_
              rotate_left
              ·intro w'
               go_simp
               with_reducible rfl
              rotate_left
              ·simp only [Act.put,setIfInBounds_toArray,set_cons_zero,set_cons_succ,i64_w,i32_w]
               rfl
              refine take_ (i:=10) (N:=some 22) (v:=?_) (a':=?_) #[T,T,T,T,T,T,T,T,T,T,T,F,F,F,F,F,F,F,F,F,F,F,F,F,F,F,F,F,F,F,F,F,F,F,F] rfl rfl (take_ofW HT_.out HW_.out (by kernel_rfl)) (fun _ _ _ h => h) (Or.inl ⟨by rfl,?_⟩) hHeld ?_ ?_
              rotate_left
              ·rintro w' ⟨s0,s1,s2,s3,s4,s5,s6,s7,s8,s9,s10,s11,s12,s13⟩
               go_simp
               with_reducible rfl
              rotate_left
              ·simp only [Act.put,setIfInBounds_toArray,set_cons_zero,set_cons_succ,i64_w,i32_w]
               rfl
              refine one_ (i:=11) (N:=some 23) #[T,T,T,T,T,T,T,T,T,T,T,T,F,F,F,F,F,F,F,F,F,F,F,F,F,F,F,F,F,F,F,F,F,F,F] rfl rfl (one_of HT_.out (by kernel_rfl)) (by decide) (fun K hK => ?_)
              refine goes_ Tryd.func103 (by kernel_rfl) rfl #[.agg #[.int .i64 ((rd_T88 l0 x7_1).f1.f0),.int .i64 ((rd_T88 l0 x7_1).f1.f1),.int .i64 ((rd_T88 l0 x7_1).f1.f2),.int .i64 ((rd_T88 l0 x7_1).f1.f3),.int .i64 ((rd_T88 l0 x7_1).f1.f4),.int .i64 ((rd_T88 l0 x7_1).f1.f5)]] (by rfl) rfl rfl (by (try simp only [List.map_toArray,List.map_cons,List.map_nil]); first | done | rfl | (simp only [List.length_drop,List.length_take]; rfl)) ?_
              with_reducible refine (impl_AggOK.calls ((rd_T88 l0 x7_1).f1.f0) ((rd_T88 l0 x7_1).f1.f1) ((rd_T88 l0 x7_1).f1.f2) ((rd_T88 l0 x7_1).f1.f3) ((rd_T88 l0 x7_1).f1.f4) ((rd_T88 l0 x7_1).f1.f5) true _ A12.out).mono ?_
              rintro e w34 ⟨rfl,hb⟩
              refine ⟨_,rfl,?_⟩
              have n0_ := Aside0.mk (blk_below (g:=gb250) (o:=.cells #[.int .i64 ((rd_T88 l0 x7_1).f0),.int .i64 ((rd_T88 l0 x7_1).f1.f0),.int .i64 ((rd_T88 l0 x7_1).f1.f1),.int .i64 ((rd_T88 l0 x7_1).f1.f2),.int .i64 ((rd_T88 l0 x7_1).f1.f3),.int .i64 ((rd_T88 l0 x7_1).f1.f4),.int .i64 ((rd_T88 l0 x7_1).f1.f5)] 88 (0,0)) (by (with_reducible repeat (first | refine blk_drewN ?_ _ | refine blk_drew ?_ | refine blk_alloc ?_ _)); exact BK250.out) hb)
              have n1_ := Aside0.mk (below_step (by repeat (first | (with_reducible first | exact HB.out | apply below_alloc | apply pw_below_drewN | apply below_drew1 | refine below_set ?_ GE250.out) | exact HB.out)) hb)
              clear BK250
              clear HB
              have BK250 := n0_
              have HB := n1_
              clear n0_ n1_
              (try clear hb)
              (try clear hb2)
              (try clear hk)
              (try clear hi)
              refine hK.out _ _ ⟨(blk_cell BK250.out 0).trans rfl,(blk_cell BK250.out 1).trans rfl,(blk_cell BK250.out 2).trans rfl,(blk_cell BK250.out 3).trans rfl,(blk_cell BK250.out 4).trans rfl,(blk_cell BK250.out 5).trans rfl,(blk_cell BK250.out 6).trans rfl,((HB.out.cell (bl_ w _ hw253_0)).trans hw253_0),((HB.out.cell (bl_ w _ hw253_1)).trans hw253_1),((HB.out.cell (bl_ w _ hw253_2)).trans hw253_2),((HB.out.cell (bl_ w _ hw253_3)).trans hw253_3),((HB.out.cell (bl_ w _ hw253_4)).trans hw253_4),((HB.out.cell (bl_ w _ hw253_5)).trans hw253_5),((HB.out.cell (bl_ w _ hw253_6)).trans hw253_6)⟩ (fun hHeld => ?_)
              clear hK K
              refine norm_ (a':=?_) ?_ ?_
              rotate_left
              ·show Act.put _ (some 23) _ = _
               simp only [Act.put,setIfInBounds_toArray,set_cons_zero,set_cons_succ,i64_w,i32_w]
               rfl
              refine pure_ (i:=12) (N:=some 24) (v:=?_) (a':=?_) #[T,T,T,T,T,T,T,T,T,T,T,T,T,F,F,F,F,F,F,F,F,F,F,F,F,F,F,F,F,F,F,F,F,F,F] rfl rfl (any_of HT_.out (by kernel_rfl)) (fun _ _ _ h => h) (Or.inl ⟨by rfl,?_⟩) ?_ ?_
              rotate_left
              ·intro w'
               go_simp
               with_reducible rfl
              rotate_left
              ·simp only [Act.put,setIfInBounds_toArray,set_cons_zero,set_cons_succ,i64_w,i32_w]
               rfl
              refine pure_ (i:=13) (N:=some 25) (v:=?_) (a':=?_) #[T,T,T,T,T,T,T,T,T,T,T,T,T,T,F,F,F,F,F,F,F,F,F,F,F,F,F,F,F,F,F,F,F,F,F] rfl rfl (any_of HT_.out (by kernel_rfl)) (fun _ _ _ h => h) (Or.inl ⟨by rfl,?_⟩) ?_ ?_
              rotate_left
              ·intro w'
               go_simp
               with_reducible rfl
              rotate_left
              ·simp only [Act.put,setIfInBounds_toArray,set_cons_zero,set_cons_succ,i64_w,i32_w]
               rfl
              refine pure_ (i:=14) (N:=some 26) (v:=?_) (a':=?_) #[T,T,T,T,T,T,T,T,T,T,T,T,T,T,T,F,F,F,F,F,F,F,F,F,F,F,F,F,F,F,F,F,F,F,F] rfl rfl (any_of HT_.out (by kernel_rfl)) (fun _ _ _ h => h) (Or.inl ⟨by rfl,?_⟩) ?_ ?_
              rotate_left
              ·intro w'
               go_simp
               with_reducible rfl
              rotate_left
              ·simp only [Act.put,setIfInBounds_toArray,set_cons_zero,set_cons_succ,i64_w,i32_w]
               rfl
              refine pure_ (i:=15) (N:=some 27) (v:=?_) (a':=?_) #[T,T,T,T,T,T,T,T,T,T,T,T,T,T,T,T,F,F,F,F,F,F,F,F,F,F,F,F,F,F,F,F,F,F,F] rfl rfl (any_of HT_.out (by kernel_rfl)) (fun _ _ _ h => h) (Or.inl ⟨by rfl,?_⟩) ?_ ?_
              rotate_left
              ·intro w'
               go_simp
               with_reducible rfl
              rotate_left
              ·simp only [Act.put,setIfInBounds_toArray,set_cons_zero,set_cons_succ,i64_w,i32_w]
               rfl
              refine pure_ (i:=16) (N:=some 28) (v:=?_) (a':=?_) #[T,T,T,T,T,T,T,T,T,T,T,T,T,T,T,T,T,F,F,F,F,F,F,F,F,F,F,F,F,F,F,F,F,F,F] rfl rfl (any_of HT_.out (by kernel_rfl)) (fun _ _ _ h => h) (Or.inl ⟨by rfl,?_⟩) ?_ ?_
              rotate_left
              ·intro w'
               go_simp
               with_reducible rfl
              rotate_left
              ·simp only [Act.put,setIfInBounds_toArray,set_cons_zero,set_cons_succ,i64_w,i32_w]
               rfl
              refine take_ (i:=17) (N:=some 29) (v:=?_) (a':=?_) #[T,T,T,T,T,T,T,T,T,T,T,T,T,T,T,T,T,T,F,F,F,F,F,F,F,F,F,F,F,F,F,F,F,F,F] rfl rfl (take_ofW HT_.out HW_.out (by kernel_rfl)) (fun _ _ _ h => h) (Or.inl ⟨by rfl,?_⟩) hHeld ?_ ?_
              rotate_left
              ·rintro w' ⟨s0,s1,s2,s3,s4,s5,s6,s7,s8,s9,s10,s11,s12,s13⟩
               go_simp
               with_reducible rfl
              rotate_left
              ·simp only [Act.put,setIfInBounds_toArray,set_cons_zero,set_cons_succ,i64_w,i32_w]
               rfl
              refine pure_ (i:=18) (N:=some 30) (v:=?_) (a':=?_) #[T,T,T,T,T,T,T,T,T,T,T,T,T,T,T,T,T,T,T,F,F,F,F,F,F,F,F,F,F,F,F,F,F,F,F] rfl rfl (any_of HT_.out (by kernel_rfl)) (fun _ _ _ h => h) (Or.inl ⟨by rfl,?_⟩) ?_ ?_
              rotate_left
              ·intro w'
               go_simp
               with_reducible rfl
              rotate_left
              ·simp only [Act.put,setIfInBounds_toArray,set_cons_zero,set_cons_succ,i64_w,i32_w]
               rfl
              refine pure_ (i:=19) (N:=some 31) (v:=?_) (a':=?_) #[T,T,T,T,T,T,T,T,T,T,T,T,T,T,T,T,T,T,T,T,F,F,F,F,F,F,F,F,F,F,F,F,F,F,F] rfl rfl (any_of HT_.out (by kernel_rfl)) (fun _ _ _ h => h) (Or.inl ⟨by rfl,?_⟩) ?_ ?_
              rotate_left
              ·intro w'
               go_simp
               with_reducible rfl
              rotate_left
              ·simp only [Act.put,setIfInBounds_toArray,set_cons_zero,set_cons_succ,i64_w,i32_w]
               rfl
              refine pure_ (i:=20) (N:=some 32) (v:=?_) (a':=?_) #[T,T,T,T,T,T,T,T,T,T,T,T,T,T,T,T,T,T,T,T,T,F,F,F,F,F,F,F,F,F,F,F,F,F,F] rfl rfl (any_of HT_.out (by kernel_rfl)) (fun _ _ _ h => h) (Or.inl ⟨by rfl,?_⟩) ?_ ?_
              rotate_left
              ·intro w'
               go_simp
               with_reducible rfl
              rotate_left
              ·simp only [Act.put,setIfInBounds_toArray,set_cons_zero,set_cons_succ,i64_w,i32_w]
               rfl
              refine pure_ (i:=21) (N:=some 33) (v:=?_) (a':=?_) #[T,T,T,T,T,T,T,T,T,T,T,T,T,T,T,T,T,T,T,T,T,T,F,F,F,F,F,F,F,F,F,F,F,F,F] rfl rfl (any_of HT_.out (by kernel_rfl)) (fun _ _ _ h => h) (Or.inl ⟨by rfl,?_⟩) ?_ ?_
              rotate_left
              ·intro w'
               go_simp
               with_reducible rfl
              rotate_left
              ·simp only [Act.put,setIfInBounds_toArray,set_cons_zero,set_cons_succ,i64_w,i32_w]
               rfl
              refine pure_ (i:=22) (N:=some 34) (v:=?_) (a':=?_) #[T,T,T,T,T,T,T,T,T,T,T,T,T,T,T,T,T,T,T,T,T,T,T,F,F,F,F,F,F,F,F,F,F,F,F] rfl rfl (any_of HT_.out (by kernel_rfl)) (fun _ _ _ h => h) (Or.inl ⟨by rfl,?_⟩) ?_ ?_
              rotate_left
              ·intro w'
               go_simp
               with_reducible rfl
              rotate_left
              ·simp only [Act.put,setIfInBounds_toArray,set_cons_zero,set_cons_succ,i64_w,i32_w]
               rfl
              refine pure_ (i:=23) (N:=some 35) (v:=?_) (a':=?_) #[T,T,T,T,T,T,T,T,T,T,T,T,T,T,T,T,T,T,T,T,T,T,T,T,F,F,F,F,F,F,F,F,F,F,F] rfl rfl (any_of HT_.out (by kernel_rfl)) (fun _ _ _ h => h) (Or.inl ⟨by rfl,?_⟩) ?_ ?_
              rotate_left
              ·intro w'
               go_simp
               with_reducible rfl
              rotate_left
              ·simp only [Act.put,setIfInBounds_toArray,set_cons_zero,set_cons_succ,i64_w,i32_w]
               rfl
              refine pure_ (i:=24) (N:=some 36) (v:=?_) (a':=?_) #[T,T,T,T,T,T,T,T,T,T,T,T,T,T,T,T,T,T,T,T,T,T,T,T,T,F,F,F,F,F,F,F,F,F,F] rfl rfl (any_of HT_.out (by kernel_rfl)) (fun _ _ _ h => h) (Or.inl ⟨by rfl,?_⟩) ?_ ?_
              rotate_left
              ·intro w'
               go_simp
               with_reducible rfl
              rotate_left
              ·simp only [Act.put,setIfInBounds_toArray,set_cons_zero,set_cons_succ,i64_w,i32_w]
               rfl
              refine pure_ (i:=26) (N:=some 38) (v:=?_) (a':=?_) #[T,T,T,T,T,T,T,T,T,T,T,T,T,T,T,T,T,T,T,T,T,T,T,T,T,F,T,F,F,F,F,F,F,F,F] rfl rfl (any_of HT_.out (by kernel_rfl)) (fun _ _ _ h => h) (Or.inl ⟨by rfl,?_⟩) ?_ ?_
              rotate_left
              ·intro w'
               go_simp
               with_reducible rfl
              rotate_left
              ·simp only [Act.put,setIfInBounds_toArray,set_cons_zero,set_cons_succ,i64_w,i32_w]
               rfl
              refine pure_ (i:=27) (N:=some 39) (v:=?_) (a':=?_) #[T,T,T,T,T,T,T,T,T,T,T,T,T,T,T,T,T,T,T,T,T,T,T,T,T,F,T,T,F,F,F,F,F,F,F] rfl rfl (any_of HT_.out (by kernel_rfl)) (fun _ _ _ h => h) (Or.inl ⟨by rfl,?_⟩) ?_ ?_
              rotate_left
              ·intro w'
               go_simp
               with_reducible rfl
              rotate_left
              ·simp only [Act.put,setIfInBounds_toArray,set_cons_zero,set_cons_succ,i64_w,i32_w]
               rfl
              refine pure_ (i:=28) (N:=some 40) (v:=?_) (a':=?_) #[T,T,T,T,T,T,T,T,T,T,T,T,T,T,T,T,T,T,T,T,T,T,T,T,T,F,T,T,T,F,F,F,F,F,F] rfl rfl (any_of HT_.out (by kernel_rfl)) (fun _ _ _ h => h) (Or.inl ⟨by rfl,?_⟩) ?_ ?_
              rotate_left
              ·intro w'
               go_simp
               with_reducible rfl
              rotate_left
              ·simp only [Act.put,setIfInBounds_toArray,set_cons_zero,set_cons_succ,i64_w,i32_w]
               rfl
              refine pure_ (i:=29) (N:=some 41) (v:=?_) (a':=?_) #[T,T,T,T,T,T,T,T,T,T,T,T,T,T,T,T,T,T,T,T,T,T,T,T,T,F,T,T,T,T,F,F,F,F,F] rfl rfl (any_of HT_.out (by kernel_rfl)) (fun _ _ _ h => h) (Or.inl ⟨by rfl,?_⟩) ?_ ?_
              rotate_left
              ·intro w'
               go_simp
               with_reducible rfl
              rotate_left
              ·simp only [Act.put,setIfInBounds_toArray,set_cons_zero,set_cons_succ,i64_w,i32_w]
               rfl
              refine pure_ (i:=30) (N:=some 42) (v:=?_) (a':=?_) #[T,T,T,T,T,T,T,T,T,T,T,T,T,T,T,T,T,T,T,T,T,T,T,T,T,F,T,T,T,T,T,F,F,F,F] rfl rfl (any_of HT_.out (by kernel_rfl)) (fun _ _ _ h => h) (Or.inl ⟨by rfl,?_⟩) ?_ ?_
              rotate_left
              ·intro w'
               go_simp
               with_reducible rfl
              rotate_left
              ·simp only [Act.put,setIfInBounds_toArray,set_cons_zero,set_cons_succ,i64_w,i32_w]
               rfl
              refine take_ (i:=25) (N:=some 37) (v:=?_) (a':=?_) #[T,T,T,T,T,T,T,T,T,T,T,T,T,T,T,T,T,T,T,T,T,T,T,T,T,T,T,T,T,T,T,F,F,F,F] rfl rfl (take_ofW HT_.out HW_.out (by kernel_rfl)) (fun _ _ _ h => h) (Or.inl ⟨by rfl,?_⟩) hHeld ?_ ?_
              rotate_left
              ·rintro w' ⟨s0,s1,s2,s3,s4,s5,s6,s7,s8,s9,s10,s11,s12,s13⟩
               go_simp
               with_reducible rfl
              rotate_left
              ·simp only [Act.put,setIfInBounds_toArray,set_cons_zero,set_cons_succ,i64_w,i32_w]
               rfl
              refine take_ (i:=31) (N:=some 43) (v:=?_) (a':=?_) #[T,T,T,T,T,T,T,T,T,T,T,T,T,T,T,T,T,T,T,T,T,T,T,T,T,T,T,T,T,T,T,T,F,F,F] rfl rfl (take_ofW HT_.out HW_.out (by kernel_rfl)) (fun _ _ _ h => h) (Or.inl ⟨by rfl,?_⟩) hHeld ?_ ?_
              rotate_left
              ·rintro w' ⟨s0,s1,s2,s3,s4,s5,s6,s7,s8,s9,s10,s11,s12,s13⟩
               go_simp
               with_reducible rfl
              rotate_left
              ·simp only [Act.put,setIfInBounds_toArray,set_cons_zero,set_cons_succ,i64_w,i32_w]
               rfl
              refine pure_ (i:=32) (N:=some 44) (v:=?_) (a':=?_) #[T,T,T,T,T,T,T,T,T,T,T,T,T,T,T,T,T,T,T,T,T,T,T,T,T,T,T,T,T,T,T,T,T,F,F] rfl rfl (any_of HT_.out (by kernel_rfl)) (fun _ _ _ h => h) (Or.inl ⟨by rfl,?_⟩) ?_ ?_
              rotate_left
              ·intro w'
               go_simp
               with_reducible rfl
              rotate_left
              ·simp only [Act.put,setIfInBounds_toArray,set_cons_zero,set_cons_succ,i64_w,i32_w]
               rfl
              refine pure_ (i:=33) (N:=some 45) (v:=?_) (a':=?_) #[T,T,T,T,T,T,T,T,T,T,T,T,T,T,T,T,T,T,T,T,T,T,T,T,T,T,T,T,T,T,T,T,T,T,F] rfl rfl (any_of HT_.out (by kernel_rfl)) (fun _ _ _ h => h) (Or.inl ⟨by rfl,?_⟩) ?_ ?_
              rotate_left
              ·intro w'
               go_simp
               with_reducible rfl
              rotate_left
              ·simp only [Act.put,setIfInBounds_toArray,set_cons_zero,set_cons_succ,i64_w,i32_w]
               rfl
              refine pure_ (i:=34) (N:=some 46) (v:=?_) (a':=?_) #[T,T,T,T,T,T,T,T,T,T,T,T,T,T,T,T,T,T,T,T,T,T,T,T,T,T,T,T,T,T,T,T,T,T,T] rfl rfl (any_of HT_.out (by kernel_rfl)) (fun _ _ _ h => h) (Or.inl ⟨by rfl,?_⟩) ?_ ?_
              rotate_left
              ·intro w'
               go_simp
               with_reducible rfl
              rotate_left
              ·simp only [Act.put,setIfInBounds_toArray,set_cons_zero,set_cons_succ,i64_w,i32_w]
               rfl
              refine done_ (done_of HT_.out (by kernel_rfl)) ?_
              try go_wp2
              go_roundg k1
              case measure => have := HK1.out; omega
              case rel => exact ⟨(wrap64 (x7_1 + 1)),(by first | rfl | (simp; done) | (simp [*]; done)),H',⟨by have := HK1.out; omega⟩,⟨by repeat (first | (with_reducible first | exact HB.out | apply below_alloc | apply pw_below_drewN | apply below_drew1 | refine below_set ?_ GE250.out) | exact HB.out)⟩⟩
            ·rw [if_neg c23] at H
             exact absurd H (by simp)
           ·rw [if_neg c22] at H
            exact absurd H (by simp)
          ·rw [if_neg c20] at H
           have c20b0 : decide (0 < x7_1) = false := decide_eq_false c20
           clear c20
           have H' := Aside0.mk H
           clear H
           have p249 : 0 ≤ (x7_1 : Int) := of_decide_eq_true (by first | (with_reducible assumption) | assumption)
           have q249 : x7_1 < (l0.length : Int) := of_decide_eq_true (by first | (with_reducible assumption) | assumption)
           obtain ⟨ad249,e249,hx249_0,hx249_1,hx249_2,hx249_3,hx249_4,hx249_5,hx249_6⟩ := at_T88 HR0.out x7_1 p249 q249
           cases e249
           replace hx249_0 := (HB.out.cell (bl_ w _ hx249_0)).trans hx249_0
           replace hx249_1 := (HB.out.cell (bl_ w _ hx249_1)).trans hx249_1
           replace hx249_2 := (HB.out.cell (bl_ w _ hx249_2)).trans hx249_2
           replace hx249_3 := (HB.out.cell (bl_ w _ hx249_3)).trans hx249_3
           replace hx249_4 := (HB.out.cell (bl_ w _ hx249_4)).trans hx249_4
           replace hx249_5 := (HB.out.cell (bl_ w _ hx249_5)).trans hx249_5
           replace hx249_6 := (HB.out.cell (bl_ w _ hx249_6)).trans hx249_6
           replace p249 := eq_true p249
           replace q249 := eq_true q249
           try go_wp2_with (first | ((with_reducible refine gate_dst (N:=4) rfl ?_); refine box_event ?hg (N:=4) ?hd (cs := #[.int .i64 0,.int .i64 0,.int .i64 0,.int .i64 0,.int .i64 0,.int .i64 0,.int .i64 0]) (t:=88) ?hr ?_; (case hd => rfl); (case hg => rfl); (case hr => first | (go_simp; done) | (go_simp; rfl)); intro gb250 hg w35 hbox hb; have n0_ := Aside0.mk (below_step (by repeat (first | (with_reducible first | exact HB.out | apply below_alloc | apply pw_below_drewN | apply below_drew1) | exact HB.out)) hb); have n1_ := Aside0.mk (hbox); have n2_ := Aside0.mk ((by rw [hg]; exact (below_size (by repeat (first | (with_reducible first | exact HB.out | apply below_alloc | apply pw_below_drewN | apply below_drew1) | exact HB.out))) : w.heap.size ≤ gb250)); have n3_ := Aside0.mk ((by rw [hg]; exact (below_size (by repeat (first | (with_reducible first | exact HB.out | apply below_alloc | apply pw_below_drewN | apply below_drew1) | exact HB.out))) : w.heap.size ≤ gb250)); clear HB; have HB := n0_; have BK250 := n1_; have GW250 := n2_; have GE250 := n3_; clear n0_ n1_ n2_ n3_; clear hb hbox hg; have hcz36_0 : w35.cell? ⟨gb250,0,none⟩ = some (.int .i64 0) := (blk_cell BK250.out 0).trans rfl; have hcz36_1 : w35.cell? ⟨gb250,1,none⟩ = some (.int .i64 0) := (blk_cell BK250.out 1).trans rfl; have hcz36_2 : w35.cell? ⟨gb250,2,none⟩ = some (.int .i64 0) := (blk_cell BK250.out 2).trans rfl; have hcz36_3 : w35.cell? ⟨gb250,3,none⟩ = some (.int .i64 0) := (blk_cell BK250.out 3).trans rfl; have hcz36_4 : w35.cell? ⟨gb250,4,none⟩ = some (.int .i64 0) := (blk_cell BK250.out 4).trans rfl; have hcz36_5 : w35.cell? ⟨gb250,5,none⟩ = some (.int .i64 0) := (blk_cell BK250.out 5).trans rfl; have hcz36_6 : w35.cell? ⟨gb250,6,none⟩ = some (.int .i64 0) := (blk_cell BK250.out 6).trans rfl; have hfz36_0 := blk_frozen BK250.out 0; have hfz36_1 := blk_frozen BK250.out 1; have hfz36_2 := blk_frozen BK250.out 2; have hfz36_3 := blk_frozen BK250.out 3; have hfz36_4 := blk_frozen BK250.out 4; have hfz36_5 := blk_frozen BK250.out 5; have hfz36_6 := blk_frozen BK250.out 6))
           have n0_ : Aside0 ((((((((w35.setCell ⟨gb250,0,none⟩ (.int .i64 ((rd_T88 l0 x7_1).f0))).setCell ⟨gb250,1,none⟩ (.int .i64 ((rd_T88 l0 x7_1).f1.f0))).setCell ⟨gb250,2,none⟩ (.int .i64 ((rd_T88 l0 x7_1).f1.f1))).setCell ⟨gb250,3,none⟩ (.int .i64 ((rd_T88 l0 x7_1).f1.f2))).setCell ⟨gb250,4,none⟩ (.int .i64 ((rd_T88 l0 x7_1).f1.f3))).setCell ⟨gb250,5,none⟩ (.int .i64 ((rd_T88 l0 x7_1).f1.f4))).setCell ⟨gb250,6,none⟩ (.int .i64 ((rd_T88 l0 x7_1).f1.f5))).heap[gb250]? = some (.cells #[.int .i64 ((rd_T88 l0 x7_1).f0),.int .i64 ((rd_T88 l0 x7_1).f1.f0),.int .i64 ((rd_T88 l0 x7_1).f1.f1),.int .i64 ((rd_T88 l0 x7_1).f1.f2),.int .i64 ((rd_T88 l0 x7_1).f1.f3),.int .i64 ((rd_T88 l0 x7_1).f1.f4),.int .i64 ((rd_T88 l0 x7_1).f1.f5)] 88 (0,0))) := ⟨by (with_reducible repeat (first | refine blk_drewN ?_ _ | refine blk_drew ?_ | refine blk_alloc ?_ _)); refine blk_put (cs := #[.int .i64 ((rd_T88 l0 x7_1).f0),.int .i64 ((rd_T88 l0 x7_1).f1.f0),.int .i64 ((rd_T88 l0 x7_1).f1.f1),.int .i64 ((rd_T88 l0 x7_1).f1.f2),.int .i64 ((rd_T88 l0 x7_1).f1.f3),.int .i64 ((rd_T88 l0 x7_1).f1.f4),.int .i64 0]) ?_ 6 _ rfl; (with_reducible repeat (first | refine blk_drewN ?_ _ | refine blk_drew ?_ | refine blk_alloc ?_ _)); refine blk_put (cs := #[.int .i64 ((rd_T88 l0 x7_1).f0),.int .i64 ((rd_T88 l0 x7_1).f1.f0),.int .i64 ((rd_T88 l0 x7_1).f1.f1),.int .i64 ((rd_T88 l0 x7_1).f1.f2),.int .i64 ((rd_T88 l0 x7_1).f1.f3),.int .i64 0,.int .i64 0]) ?_ 5 _ rfl; (with_reducible repeat (first | refine blk_drewN ?_ _ | refine blk_drew ?_ | refine blk_alloc ?_ _)); refine blk_put (cs := #[.int .i64 ((rd_T88 l0 x7_1).f0),.int .i64 ((rd_T88 l0 x7_1).f1.f0),.int .i64 ((rd_T88 l0 x7_1).f1.f1),.int .i64 ((rd_T88 l0 x7_1).f1.f2),.int .i64 0,.int .i64 0,.int .i64 0]) ?_ 4 _ rfl; (with_reducible repeat (first | refine blk_drewN ?_ _ | refine blk_drew ?_ | refine blk_alloc ?_ _)); refine blk_put (cs := #[.int .i64 ((rd_T88 l0 x7_1).f0),.int .i64 ((rd_T88 l0 x7_1).f1.f0),.int .i64 ((rd_T88 l0 x7_1).f1.f1),.int .i64 0,.int .i64 0,.int .i64 0,.int .i64 0]) ?_ 3 _ rfl; (with_reducible repeat (first | refine blk_drewN ?_ _ | refine blk_drew ?_ | refine blk_alloc ?_ _)); refine blk_put (cs := #[.int .i64 ((rd_T88 l0 x7_1).f0),.int .i64 ((rd_T88 l0 x7_1).f1.f0),.int .i64 0,.int .i64 0,.int .i64 0,.int .i64 0,.int .i64 0]) ?_ 2 _ rfl; (with_reducible repeat (first | refine blk_drewN ?_ _ | refine blk_drew ?_ | refine blk_alloc ?_ _)); refine blk_put (cs := #[.int .i64 ((rd_T88 l0 x7_1).f0),.int .i64 0,.int .i64 0,.int .i64 0,.int .i64 0,.int .i64 0,.int .i64 0]) ?_ 1 _ rfl; (with_reducible repeat (first | refine blk_drewN ?_ _ | refine blk_drew ?_ | refine blk_alloc ?_ _)); refine blk_put (cs := #[.int .i64 0,.int .i64 0,.int .i64 0,.int .i64 0,.int .i64 0,.int .i64 0,.int .i64 0]) ?_ 0 _ rfl; (with_reducible repeat (first | refine blk_drewN ?_ _ | refine blk_drew ?_ | refine blk_alloc ?_ _)); exact BK250.out⟩
           have n1_ : Aside0 (Below w.heap.size w (((((((w35.setCell ⟨gb250,0,none⟩ (.int .i64 ((rd_T88 l0 x7_1).f0))).setCell ⟨gb250,1,none⟩ (.int .i64 ((rd_T88 l0 x7_1).f1.f0))).setCell ⟨gb250,2,none⟩ (.int .i64 ((rd_T88 l0 x7_1).f1.f1))).setCell ⟨gb250,3,none⟩ (.int .i64 ((rd_T88 l0 x7_1).f1.f2))).setCell ⟨gb250,4,none⟩ (.int .i64 ((rd_T88 l0 x7_1).f1.f3))).setCell ⟨gb250,5,none⟩ (.int .i64 ((rd_T88 l0 x7_1).f1.f4))).setCell ⟨gb250,6,none⟩ (.int .i64 ((rd_T88 l0 x7_1).f1.f5)))) := ⟨by repeat (first | (with_reducible first | exact HB.out | apply below_alloc | apply pw_below_drewN | apply below_drew1 | refine below_set ?_ GE250.out) | exact HB.out)⟩
           (try clear BK250)
           (try clear HB)
           generalize (((((((w35.setCell ⟨gb250,0,none⟩ (.int .i64 ((rd_T88 l0 x7_1).f0))).setCell ⟨gb250,1,none⟩ (.int .i64 ((rd_T88 l0 x7_1).f1.f0))).setCell ⟨gb250,2,none⟩ (.int .i64 ((rd_T88 l0 x7_1).f1.f1))).setCell ⟨gb250,3,none⟩ (.int .i64 ((rd_T88 l0 x7_1).f1.f2))).setCell ⟨gb250,4,none⟩ (.int .i64 ((rd_T88 l0 x7_1).f1.f3))).setCell ⟨gb250,5,none⟩ (.int .i64 ((rd_T88 l0 x7_1).f1.f4))).setCell ⟨gb250,6,none⟩ (.int .i64 ((rd_T88 l0 x7_1).f1.f5))) = w37 at n0_ n1_ ⊢
           have BK250 := n0_
           have HB := n1_
           clear n0_ n1_
           have n0_ := Aside0.mk (blk_drew BK250.out)
           have n1_ := Aside0.mk (below_drew1 HB.out)
           clear BK250
           clear HB
           have BK250 := n0_
           have HB := n1_
           clear n0_ n1_
           refine start_ (n:=35) (S:=fun w' => w'.cell? ⟨gb250,0,none⟩ = some (.int .i64 ((rd_T88 l0 x7_1).f0)) ∧ w'.cell? ⟨gb250,1,none⟩ = some (.int .i64 ((rd_T88 l0 x7_1).f1.f0)) ∧ w'.cell? ⟨gb250,2,none⟩ = some (.int .i64 ((rd_T88 l0 x7_1).f1.f1)) ∧ w'.cell? ⟨gb250,3,none⟩ = some (.int .i64 ((rd_T88 l0 x7_1).f1.f2)) ∧ w'.cell? ⟨gb250,4,none⟩ = some (.int .i64 ((rd_T88 l0 x7_1).f1.f3)) ∧ w'.cell? ⟨gb250,5,none⟩ = some (.int .i64 ((rd_T88 l0 x7_1).f1.f4)) ∧ w'.cell? ⟨gb250,6,none⟩ = some (.int .i64 ((rd_T88 l0 x7_1).f1.f5))) (ds := []) #[F,F,F,F,F,F,F,F,F,F,F,F,F,F,F,F,F,F,F,F,F,F,F,F,F,F,F,F,F,F,F,F,F,F,F] (by kernel_rfl) rfl rfl ⟨(blk_cell BK250.out 0).trans rfl,(blk_cell BK250.out 1).trans rfl,(blk_cell BK250.out 2).trans rfl,(blk_cell BK250.out 3).trans rfl,(blk_cell BK250.out 4).trans rfl,(blk_cell BK250.out 5).trans rfl,(blk_cell BK250.out 6).trans rfl⟩ (fun hHeld => ?_); refine with_tabW impl_BucketsOK.tab4 impl_BucketsOK.bits4 (fun HT_ HW_ => ?_)
           generalize w37.drew = w38 at BK250 HB hHeld ⊢
           refine pure_ (i:=0) (N:=some 12) (v:=?_) (a':=?_) #[T,F,F,F,F,F,F,F,F,F,F,F,F,F,F,F,F,F,F,F,F,F,F,F,F,F,F,F,F,F,F,F,F,F,F] rfl rfl (any_of HT_.out (by kernel_rfl)) (fun _ _ _ h => h) (Or.inl ⟨by rfl,?_⟩) ?_ ?_
           rotate_left
           ·intro w'
            go_simp
            with_reducible rfl
           rotate_left
           ·simp only [Act.put,setIfInBounds_toArray,set_cons_zero,set_cons_succ,i64_w,i32_w]
            rfl
           refine pure_ (i:=1) (N:=some 13) (v:=?_) (a':=?_) #[T,T,F,F,F,F,F,F,F,F,F,F,F,F,F,F,F,F,F,F,F,F,F,F,F,F,F,F,F,F,F,F,F,F,F] rfl rfl (any_of HT_.out (by kernel_rfl)) (fun _ _ _ h => h) (Or.inl ⟨by rfl,?_⟩) ?_ ?_
           rotate_left
           ·intro w'
            go_simp
            with_reducible rfl
           rotate_left
           ·simp only [Act.put,setIfInBounds_toArray,set_cons_zero,set_cons_succ,i64_w,i32_w]
            rfl
           refine pure_ (i:=2) (N:=some 14) (v:=?_) (a':=?_) #[T,T,T,F,F,F,F,F,F,F,F,F,F,F,F,F,F,F,F,F,F,F,F,F,F,F,F,F,F,F,F,F,F,F,F] rfl rfl (any_of HT_.out (by kernel_rfl)) (fun _ _ _ h => h) (Or.inl ⟨by rfl,?_⟩) ?_ ?_
           rotate_left
           ·intro w'
            go_simp
            with_reducible rfl
           rotate_left
           ·simp only [Act.put,setIfInBounds_toArray,set_cons_zero,set_cons_succ,i64_w,i32_w]
            rfl
           refine pure_ (i:=3) (N:=some 15) (v:=?_) (a':=?_) #[T,T,T,T,F,F,F,F,F,F,F,F,F,F,F,F,F,F,F,F,F,F,F,F,F,F,F,F,F,F,F,F,F,F,F] rfl rfl (any_of HT_.out (by kernel_rfl)) (fun _ _ _ h => h) (Or.inl ⟨by rfl,?_⟩) ?_ ?_
           rotate_left
           ·intro w'
            go_simp
            with_reducible rfl
           rotate_left
           ·simp only [Act.put,setIfInBounds_toArray,set_cons_zero,set_cons_succ,i64_w,i32_w]
            rfl
           refine take_ (i:=4) (N:=some 16) (v:=?_) (a':=?_) #[T,T,T,T,T,F,F,F,F,F,F,F,F,F,F,F,F,F,F,F,F,F,F,F,F,F,F,F,F,F,F,F,F,F,F] rfl rfl (take_ofW HT_.out HW_.out (by kernel_rfl)) (fun _ _ _ h => h) (Or.inl ⟨by rfl,?_⟩) hHeld ?_ ?_
           rotate_left
           ·rintro w' ⟨s0,s1,s2,s3,s4,s5,s6⟩
            go_simp
            with_reducible rfl
           rotate_left
           ·simp only [Act.put,setIfInBounds_toArray,set_cons_zero,set_cons_succ,i64_w,i32_w]
            rfl
           refine one_ (i:=5) (N:=some 17) #[T,T,T,T,T,T,F,F,F,F,F,F,F,F,F,F,F,F,F,F,F,F,F,F,F,F,F,F,F,F,F,F,F,F,F] rfl rfl (one_of HT_.out (by kernel_rfl)) (by decide) (fun K hK => ?_)
           refine goes_ Tryd.func89 (by kernel_rfl) rfl #[.int .i64 ((rd_T88 l0 x7_1).f0)] (by rfl) rfl rfl (by (try simp only [List.map_toArray,List.map_cons,List.map_nil]); first | done | rfl | (simp only [List.length_drop,List.length_take]; rfl)) ?_
           with_reducible refine (impl_isMoment.calls ((rd_T88 l0 x7_1).f0) true _ A10.out).mono ?_
           rintro e w' ⟨rfl,⟨nd,rfl⟩⟩
           refine ⟨_,rfl,?_⟩
           refine hK.out _ _ ⟨(blk_cell BK250.out 0).trans rfl,(blk_cell BK250.out 1).trans rfl,(blk_cell BK250.out 2).trans rfl,(blk_cell BK250.out 3).trans rfl,(blk_cell BK250.out 4).trans rfl,(blk_cell BK250.out 5).trans rfl,(blk_cell BK250.out 6).trans rfl⟩ (fun hHeld => ?_)
           clear hK K
           refine norm_ (a':=?_) ?_ ?_
           rotate_left
           ·show Act.put _ (some 17) _ = _
            simp only [Act.put,setIfInBounds_toArray,set_cons_zero,set_cons_succ,i64_w,i32_w]
            rfl
           refine pure_ (i:=6) (N:=some 18) (v:=?_) (a':=?_) #[T,T,T,T,T,T,T,F,F,F,F,F,F,F,F,F,F,F,F,F,F,F,F,F,F,F,F,F,F,F,F,F,F,F,F] rfl rfl (any_of HT_.out (by kernel_rfl)) (fun _ _ _ h => h) (Or.inl ⟨by rfl,?_⟩) ?_ ?_
           rotate_left
           ·intro w'
            go_simp
            with_reducible rfl
           rotate_left
           ·simp only [Act.put,setIfInBounds_toArray,set_cons_zero,set_cons_succ,i64_w,i32_w]
            rfl
           refine pure_ (i:=7) (N:=some 19) (v:=?_) (a':=?_) #[T,T,T,T,T,T,T,T,F,F,F,F,F,F,F,F,F,F,F,F,F,F,F,F,F,F,F,F,F,F,F,F,F,F,F] rfl rfl (any_of HT_.out (by kernel_rfl)) (fun _ _ _ h => h) (Or.inl ⟨by rfl,?_⟩) ?_ ?_
           rotate_left
           ·intro w'
            go_simp
            with_reducible rfl
           rotate_left
           ·simp only [Act.put,setIfInBounds_toArray,set_cons_zero,set_cons_succ,i64_w,i32_w]
            rfl
           refine pure_ (i:=8) (N:=some 20) (v:=?_) (a':=?_) #[T,T,T,T,T,T,T,T,T,F,F,F,F,F,F,F,F,F,F,F,F,F,F,F,F,F,F,F,F,F,F,F,F,F,F] rfl rfl (any_of HT_.out (by kernel_rfl)) (fun _ _ _ h => h) (Or.inl ⟨by rfl,?_⟩) ?_ ?_
           rotate_left
           ·intro w'
            go_simp
            with_reducible rfl
           rotate_left
           ·simp only [Act.put,setIfInBounds_toArray,set_cons_zero,set_cons_succ,i64_w,i32_w]
            rfl
           refine pure_ (i:=9) (N:=some 21) (v:=?_) (a':=?_) #[T,T,T,T,T,T,T,T,T,T,F,F,F,F,F,F,F,F,F,F,F,F,F,F,F,F,F,F,F,F,F,F,F,F,F] rfl rfl (any_of HT_.out (by kernel_rfl)) (fun _ _ _ h => h) (Or.inl ⟨by rfl,?_⟩) ?_ ?_
           rotate_left
           ·intro w'
            go_simp
            with_reducible rfl
           rotate_left
           ·simp only [Act.put,setIfInBounds_toArray,set_cons_zero,set_cons_succ,i64_w,i32_w]
            rfl
           refine take_ (i:=10) (N:=some 22) (v:=?_) (a':=?_) #[T,T,T,T,T,T,T,T,T,T,T,F,F,F,F,F,F,F,F,F,F,F,F,F,F,F,F,F,F,F,F,F,F,F,F] rfl rfl (take_ofW HT_.out HW_.out (by kernel_rfl)) (fun _ _ _ h => h) (Or.inl ⟨by rfl,?_⟩) hHeld ?_ ?_
           rotate_left
           ·rintro w' ⟨s0,s1,s2,s3,s4,s5,s6⟩
            go_simp
            with_reducible rfl
           rotate_left
           ·simp only [Act.put,setIfInBounds_toArray,set_cons_zero,set_cons_succ,i64_w,i32_w]
            rfl
           refine one_ (i:=11) (N:=some 23) #[T,T,T,T,T,T,T,T,T,T,T,T,F,F,F,F,F,F,F,F,F,F,F,F,F,F,F,F,F,F,F,F,F,F,F] rfl rfl (one_of HT_.out (by kernel_rfl)) (by decide) (fun K hK => ?_)
           refine goes_ Tryd.func103 (by kernel_rfl) rfl #[.agg #[.int .i64 ((rd_T88 l0 x7_1).f1.f0),.int .i64 ((rd_T88 l0 x7_1).f1.f1),.int .i64 ((rd_T88 l0 x7_1).f1.f2),.int .i64 ((rd_T88 l0 x7_1).f1.f3),.int .i64 ((rd_T88 l0 x7_1).f1.f4),.int .i64 ((rd_T88 l0 x7_1).f1.f5)]] (by rfl) rfl rfl (by (try simp only [List.map_toArray,List.map_cons,List.map_nil]); first | done | rfl | (simp only [List.length_drop,List.length_take]; rfl)) ?_
           with_reducible refine (impl_AggOK.calls ((rd_T88 l0 x7_1).f1.f0) ((rd_T88 l0 x7_1).f1.f1) ((rd_T88 l0 x7_1).f1.f2) ((rd_T88 l0 x7_1).f1.f3) ((rd_T88 l0 x7_1).f1.f4) ((rd_T88 l0 x7_1).f1.f5) true _ A12.out).mono ?_
           rintro e w39 ⟨rfl,hb⟩
           refine ⟨_,rfl,?_⟩
           have n0_ := Aside0.mk (blk_below (g:=gb250) (o:=.cells #[.int .i64 ((rd_T88 l0 x7_1).f0),.int .i64 ((rd_T88 l0 x7_1).f1.f0),.int .i64 ((rd_T88 l0 x7_1).f1.f1),.int .i64 ((rd_T88 l0 x7_1).f1.f2),.int .i64 ((rd_T88 l0 x7_1).f1.f3),.int .i64 ((rd_T88 l0 x7_1).f1.f4),.int .i64 ((rd_T88 l0 x7_1).f1.f5)] 88 (0,0)) (by (with_reducible repeat (first | refine blk_drewN ?_ _ | refine blk_drew ?_ | refine blk_alloc ?_ _)); exact BK250.out) hb)
           have n1_ := Aside0.mk (below_step (by repeat (first | (with_reducible first | exact HB.out | apply below_alloc | apply pw_below_drewN | apply below_drew1 | refine below_set ?_ GE250.out) | exact HB.out)) hb)
           clear BK250
           clear HB
           have BK250 := n0_
           have HB := n1_
           clear n0_ n1_
           (try clear hb)
           (try clear hb2)
           (try clear hk)
           (try clear hi)
           refine hK.out _ _ ⟨(blk_cell BK250.out 0).trans rfl,(blk_cell BK250.out 1).trans rfl,(blk_cell BK250.out 2).trans rfl,(blk_cell BK250.out 3).trans rfl,(blk_cell BK250.out 4).trans rfl,(blk_cell BK250.out 5).trans rfl,(blk_cell BK250.out 6).trans rfl⟩ (fun hHeld => ?_)
           clear hK K
           refine norm_ (a':=?_) ?_ ?_
           rotate_left
           ·show Act.put _ (some 23) _ = _
            simp only [Act.put,setIfInBounds_toArray,set_cons_zero,set_cons_succ,i64_w,i32_w]
            rfl
           refine pure_ (i:=12) (N:=some 24) (v:=?_) (a':=?_) #[T,T,T,T,T,T,T,T,T,T,T,T,T,F,F,F,F,F,F,F,F,F,F,F,F,F,F,F,F,F,F,F,F,F,F] rfl rfl (any_of HT_.out (by kernel_rfl)) (fun _ _ _ h => h) (Or.inl ⟨by rfl,?_⟩) ?_ ?_
           rotate_left
           ·intro w'
            go_simp
            with_reducible rfl
           rotate_left
           ·simp only [Act.put,setIfInBounds_toArray,set_cons_zero,set_cons_succ,i64_w,i32_w]
            rfl
           refine pure_ (i:=13) (N:=some 25) (v:=?_) (a':=?_) #[T,T,T,T,T,T,T,T,T,T,T,T,T,T,F,F,F,F,F,F,F,F,F,F,F,F,F,F,F,F,F,F,F,F,F] rfl rfl (any_of HT_.out (by kernel_rfl)) (fun _ _ _ h => h) (Or.inl ⟨by rfl,?_⟩) ?_ ?_
           rotate_left
           ·intro w'
            go_simp
            with_reducible rfl
           rotate_left
           ·simp only [Act.put,setIfInBounds_toArray,set_cons_zero,set_cons_succ,i64_w,i32_w]
            rfl
           refine pure_ (i:=14) (N:=some 26) (v:=?_) (a':=?_) #[T,T,T,T,T,T,T,T,T,T,T,T,T,T,T,F,F,F,F,F,F,F,F,F,F,F,F,F,F,F,F,F,F,F,F] rfl rfl (any_of HT_.out (by kernel_rfl)) (fun _ _ _ h => h) (Or.inl ⟨by rfl,?_⟩) ?_ ?_
           rotate_left
           ·intro w'
            go_simp
            with_reducible rfl
           rotate_left
           ·simp only [Act.put,setIfInBounds_toArray,set_cons_zero,set_cons_succ,i64_w,i32_w]
            rfl
           refine pure_ (i:=15) (N:=some 27) (v:=?_) (a':=?_) #[T,T,T,T,T,T,T,T,T,T,T,T,T,T,T,T,F,F,F,F,F,F,F,F,F,F,F,F,F,F,F,F,F,F,F] rfl rfl (any_of HT_.out (by kernel_rfl)) (fun _ _ _ h => h) (Or.inl ⟨by rfl,?_⟩) ?_ ?_
           rotate_left
           ·intro w'
            go_simp
            with_reducible rfl
           rotate_left
           ·simp only [Act.put,setIfInBounds_toArray,set_cons_zero,set_cons_succ,i64_w,i32_w]
            rfl
           refine pure_ (i:=16) (N:=some 28) (v:=?_) (a':=?_) #[T,T,T,T,T,T,T,T,T,T,T,T,T,T,T,T,T,F,F,F,F,F,F,F,F,F,F,F,F,F,F,F,F,F,F] rfl rfl (any_of HT_.out (by kernel_rfl)) (fun _ _ _ h => h) (Or.inl ⟨by rfl,?_⟩) ?_ ?_
           rotate_left
           ·intro w'
            go_simp
            with_reducible rfl
           rotate_left
           ·simp only [Act.put,setIfInBounds_toArray,set_cons_zero,set_cons_succ,i64_w,i32_w]
            rfl
           refine take_ (i:=17) (N:=some 29) (v:=?_) (a':=?_) #[T,T,T,T,T,T,T,T,T,T,T,T,T,T,T,T,T,T,F,F,F,F,F,F,F,F,F,F,F,F,F,F,F,F,F] rfl rfl (take_ofW HT_.out HW_.out (by kernel_rfl)) (fun _ _ _ h => h) (Or.inl ⟨by rfl,?_⟩) hHeld ?_ ?_
           rotate_left
           ·rintro w' ⟨s0,s1,s2,s3,s4,s5,s6⟩
            go_simp
            with_reducible rfl
           rotate_left
           ·simp only [Act.put,setIfInBounds_toArray,set_cons_zero,set_cons_succ,i64_w,i32_w]
            rfl
           refine pure_ (i:=18) (N:=some 30) (v:=?_) (a':=?_) #[T,T,T,T,T,T,T,T,T,T,T,T,T,T,T,T,T,T,T,F,F,F,F,F,F,F,F,F,F,F,F,F,F,F,F] rfl rfl (any_of HT_.out (by kernel_rfl)) (fun _ _ _ h => h) (Or.inl ⟨by rfl,?_⟩) ?_ ?_
           rotate_left
           ·intro w'
            go_simp
            with_reducible rfl
           rotate_left
           ·simp only [Act.put,setIfInBounds_toArray,set_cons_zero,set_cons_succ,i64_w,i32_w]
            rfl
           refine pure_ (i:=19) (N:=some 31) (v:=?_) (a':=?_) #[T,T,T,T,T,T,T,T,T,T,T,T,T,T,T,T,T,T,T,T,F,F,F,F,F,F,F,F,F,F,F,F,F,F,F] rfl rfl (any_of HT_.out (by kernel_rfl)) (fun _ _ _ h => h) (Or.inl ⟨by rfl,?_⟩) ?_ ?_
           rotate_left
           ·intro w'
            go_simp
            with_reducible rfl
           rotate_left
           ·simp only [Act.put,setIfInBounds_toArray,set_cons_zero,set_cons_succ,i64_w,i32_w]
            rfl
           refine pure_ (i:=20) (N:=some 32) (v:=?_) (a':=?_) #[T,T,T,T,T,T,T,T,T,T,T,T,T,T,T,T,T,T,T,T,T,F,F,F,F,F,F,F,F,F,F,F,F,F,F] rfl rfl (any_of HT_.out (by kernel_rfl)) (fun _ _ _ h => h) (Or.inl ⟨by rfl,?_⟩) ?_ ?_
           rotate_left
           ·intro w'
            go_simp
            with_reducible rfl
           rotate_left
           ·simp only [Act.put,setIfInBounds_toArray,set_cons_zero,set_cons_succ,i64_w,i32_w]
            rfl
           refine pure_ (i:=21) (N:=some 33) (v:=?_) (a':=?_) #[T,T,T,T,T,T,T,T,T,T,T,T,T,T,T,T,T,T,T,T,T,T,F,F,F,F,F,F,F,F,F,F,F,F,F] rfl rfl (any_of HT_.out (by kernel_rfl)) (fun _ _ _ h => h) (Or.inl ⟨by rfl,?_⟩) ?_ ?_
           rotate_left
           ·intro w'
            go_simp
            with_reducible rfl
           rotate_left
           ·simp only [Act.put,setIfInBounds_toArray,set_cons_zero,set_cons_succ,i64_w,i32_w]
            rfl
           refine pure_ (i:=22) (N:=some 34) (v:=?_) (a':=?_) #[T,T,T,T,T,T,T,T,T,T,T,T,T,T,T,T,T,T,T,T,T,T,T,F,F,F,F,F,F,F,F,F,F,F,F] rfl rfl (any_of HT_.out (by kernel_rfl)) (fun _ _ _ h => h) (Or.inl ⟨by rfl,?_⟩) ?_ ?_
           rotate_left
           ·intro w'
            go_simp
            with_reducible rfl
           rotate_left
           ·simp only [Act.put,setIfInBounds_toArray,set_cons_zero,set_cons_succ,i64_w,i32_w]
            rfl
           refine pure_ (i:=23) (N:=some 35) (v:=?_) (a':=?_) #[T,T,T,T,T,T,T,T,T,T,T,T,T,T,T,T,T,T,T,T,T,T,T,T,F,F,F,F,F,F,F,F,F,F,F] rfl rfl (any_of HT_.out (by kernel_rfl)) (fun _ _ _ h => h) (Or.inl ⟨by rfl,?_⟩) ?_ ?_
           rotate_left
           ·intro w'
            go_simp
            with_reducible rfl
           rotate_left
           ·simp only [Act.put,setIfInBounds_toArray,set_cons_zero,set_cons_succ,i64_w,i32_w]
            rfl
           refine pure_ (i:=24) (N:=some 36) (v:=undef) (a':=?_) #[T,T,T,T,T,T,T,T,T,T,T,T,T,T,T,T,T,T,T,T,T,T,T,T,T,F,F,F,F,F,F,F,F,F,F] rfl rfl (any_of HT_.out (by kernel_rfl)) (fun _ _ _ h => h) (Or.inr ⟨by rfl,rfl⟩) ?_ ?_
           rotate_left
           ·simp only [Act.put,setIfInBounds_toArray,set_cons_zero,set_cons_succ,i64_w,i32_w]
            rfl
           refine pure_ (i:=25) (N:=some 37) (v:=undef) (a':=?_) #[T,T,T,T,T,T,T,T,T,T,T,T,T,T,T,T,T,T,T,T,T,T,T,T,T,T,F,F,F,F,F,F,F,F,F] rfl rfl (any_of HT_.out (by kernel_rfl)) (fun _ _ _ h => h) (Or.inr ⟨by rfl,rfl⟩) ?_ ?_
           rotate_left
           ·simp only [Act.put,setIfInBounds_toArray,set_cons_zero,set_cons_succ,i64_w,i32_w]
            rfl
           refine pure_ (i:=26) (N:=some 38) (v:=undef) (a':=?_) #[T,T,T,T,T,T,T,T,T,T,T,T,T,T,T,T,T,T,T,T,T,T,T,T,T,T,T,F,F,F,F,F,F,F,F] rfl rfl (any_of HT_.out (by kernel_rfl)) (fun _ _ _ h => h) (Or.inr ⟨by rfl,rfl⟩) ?_ ?_
           rotate_left
           ·simp only [Act.put,setIfInBounds_toArray,set_cons_zero,set_cons_succ,i64_w,i32_w]
            rfl
           refine pure_ (i:=27) (N:=some 39) (v:=undef) (a':=?_) #[T,T,T,T,T,T,T,T,T,T,T,T,T,T,T,T,T,T,T,T,T,T,T,T,T,T,T,T,F,F,F,F,F,F,F] rfl rfl (any_of HT_.out (by kernel_rfl)) (fun _ _ _ h => h) (Or.inr ⟨by rfl,rfl⟩) ?_ ?_
           rotate_left
           ·simp only [Act.put,setIfInBounds_toArray,set_cons_zero,set_cons_succ,i64_w,i32_w]
            rfl
           refine pure_ (i:=28) (N:=some 40) (v:=undef) (a':=?_) #[T,T,T,T,T,T,T,T,T,T,T,T,T,T,T,T,T,T,T,T,T,T,T,T,T,T,T,T,T,F,F,F,F,F,F] rfl rfl (any_of HT_.out (by kernel_rfl)) (fun _ _ _ h => h) (Or.inr ⟨by rfl,rfl⟩) ?_ ?_
           rotate_left
           ·simp only [Act.put,setIfInBounds_toArray,set_cons_zero,set_cons_succ,i64_w,i32_w]
            rfl
           refine pure_ (i:=29) (N:=some 41) (v:=undef) (a':=?_) #[T,T,T,T,T,T,T,T,T,T,T,T,T,T,T,T,T,T,T,T,T,T,T,T,T,T,T,T,T,T,F,F,F,F,F] rfl rfl (any_of HT_.out (by kernel_rfl)) (fun _ _ _ h => h) (Or.inr ⟨by rfl,rfl⟩) ?_ ?_
           rotate_left
           ·simp only [Act.put,setIfInBounds_toArray,set_cons_zero,set_cons_succ,i64_w,i32_w]
            rfl
           refine pure_ (i:=30) (N:=some 42) (v:=undef) (a':=?_) #[T,T,T,T,T,T,T,T,T,T,T,T,T,T,T,T,T,T,T,T,T,T,T,T,T,T,T,T,T,T,T,F,F,F,F] rfl rfl (any_of HT_.out (by kernel_rfl)) (fun _ _ _ h => h) (Or.inr ⟨by rfl,rfl⟩) ?_ ?_
           rotate_left
           ·simp only [Act.put,setIfInBounds_toArray,set_cons_zero,set_cons_succ,i64_w,i32_w]
            rfl
           refine pure_ (i:=31) (N:=some 43) (v:=undef) (a':=?_) #[T,T,T,T,T,T,T,T,T,T,T,T,T,T,T,T,T,T,T,T,T,T,T,T,T,T,T,T,T,T,T,T,F,F,F] rfl rfl (any_of HT_.out (by kernel_rfl)) (fun _ _ _ h => h) (Or.inr ⟨by rfl,rfl⟩) ?_ ?_
           rotate_left
           ·simp only [Act.put,setIfInBounds_toArray,set_cons_zero,set_cons_succ,i64_w,i32_w]
            rfl
           refine pure_ (i:=32) (N:=some 44) (v:=undef) (a':=?_) #[T,T,T,T,T,T,T,T,T,T,T,T,T,T,T,T,T,T,T,T,T,T,T,T,T,T,T,T,T,T,T,T,T,F,F] rfl rfl (any_of HT_.out (by kernel_rfl)) (fun _ _ _ h => h) (Or.inr ⟨by rfl,rfl⟩) ?_ ?_
           rotate_left
           ·simp only [Act.put,setIfInBounds_toArray,set_cons_zero,set_cons_succ,i64_w,i32_w]
            rfl
           refine pure_ (i:=33) (N:=some 45) (v:=?_) (a':=?_) #[T,T,T,T,T,T,T,T,T,T,T,T,T,T,T,T,T,T,T,T,T,T,T,T,T,T,T,T,T,T,T,T,T,T,F] rfl rfl (any_of HT_.out (by kernel_rfl)) (fun _ _ _ h => h) (Or.inl ⟨by rfl,?_⟩) ?_ ?_
           rotate_left
           ·intro w'
            go_simp
            with_reducible rfl
           rotate_left
           ·simp only [Act.put,setIfInBounds_toArray,set_cons_zero,set_cons_succ,i64_w,i32_w]
            rfl
           refine pure_ (i:=34) (N:=some 46) (v:=?_) (a':=?_) #[T,T,T,T,T,T,T,T,T,T,T,T,T,T,T,T,T,T,T,T,T,T,T,T,T,T,T,T,T,T,T,T,T,T,T] rfl rfl (any_of HT_.out (by kernel_rfl)) (fun _ _ _ h => h) (Or.inl ⟨by rfl,?_⟩) ?_ ?_
           rotate_left
           ·intro w'
            go_simp
            with_reducible rfl
           rotate_left
           ·simp only [Act.put,setIfInBounds_toArray,set_cons_zero,set_cons_succ,i64_w,i32_w]
            rfl
           refine done_ (done_of HT_.out (by kernel_rfl)) ?_
           try go_wp2
           go_roundg k1
           case measure => have := HK1.out; omega
           case rel => exact ⟨(wrap64 (x7_1 + 1)),(by first | rfl | (simp; done) | (simp [*]; done)),H',⟨by have := HK1.out; omega⟩,⟨by repeat (first | (with_reducible first | exact HB.out | apply below_alloc | apply pw_below_drewN | apply below_drew1 | refine below_set ?_ GE250.out) | exact HB.out)⟩⟩
        ·replace c13 := Bool.eq_false_iff.mpr c13
         subst c13
         have H1 : (some false) = some r := by rw [if_neg (show ¬ (false = true) by decide)] at H; exact H
         clear H
         have H := H1
         clear H1
         obtain rfl := Option.some.inj H
         have p249 : 0 ≤ (x7_1 : Int) := of_decide_eq_true (by first | (with_reducible assumption) | assumption)
         have q249 : x7_1 < (l0.length : Int) := of_decide_eq_true (by first | (with_reducible assumption) | assumption)
         obtain ⟨ad249,e249,hx249_0,hx249_1,hx249_2,hx249_3,hx249_4,hx249_5,hx249_6⟩ := at_T88 HR0.out x7_1 p249 q249
         cases e249
         replace hx249_0 := (HB.out.cell (bl_ w _ hx249_0)).trans hx249_0
         replace hx249_1 := (HB.out.cell (bl_ w _ hx249_1)).trans hx249_1
         replace hx249_2 := (HB.out.cell (bl_ w _ hx249_2)).trans hx249_2
         replace hx249_3 := (HB.out.cell (bl_ w _ hx249_3)).trans hx249_3
         replace hx249_4 := (HB.out.cell (bl_ w _ hx249_4)).trans hx249_4
         replace hx249_5 := (HB.out.cell (bl_ w _ hx249_5)).trans hx249_5
         replace hx249_6 := (HB.out.cell (bl_ w _ hx249_6)).trans hx249_6
         replace p249 := eq_true p249
         replace q249 := eq_true q249
         try go_wp2_with (first | ((with_reducible refine gate_dst (N:=4) rfl ?_); refine box_event ?hg (N:=4) ?hd (cs := #[.int .i64 0,.int .i64 0,.int .i64 0,.int .i64 0,.int .i64 0,.int .i64 0,.int .i64 0]) (t:=88) ?hr ?_; (case hd => rfl); (case hg => rfl); (case hr => first | (go_simp; done) | (go_simp; rfl)); intro gb250 hg w40 hbox hb; have n0_ := Aside0.mk (below_step (by repeat (first | (with_reducible first | exact HB.out | apply below_alloc | apply pw_below_drewN | apply below_drew1) | exact HB.out)) hb); have n1_ := Aside0.mk (hbox); have n2_ := Aside0.mk ((by rw [hg]; exact (below_size (by repeat (first | (with_reducible first | exact HB.out | apply below_alloc | apply pw_below_drewN | apply below_drew1) | exact HB.out))) : w.heap.size ≤ gb250)); have n3_ := Aside0.mk ((by rw [hg]; exact (below_size (by repeat (first | (with_reducible first | exact HB.out | apply below_alloc | apply pw_below_drewN | apply below_drew1) | exact HB.out))) : w.heap.size ≤ gb250)); clear HB; have HB := n0_; have BK250 := n1_; have GW250 := n2_; have GE250 := n3_; clear n0_ n1_ n2_ n3_; clear hb hbox hg; have hcz41_0 : w40.cell? ⟨gb250,0,none⟩ = some (.int .i64 0) := (blk_cell BK250.out 0).trans rfl; have hcz41_1 : w40.cell? ⟨gb250,1,none⟩ = some (.int .i64 0) := (blk_cell BK250.out 1).trans rfl; have hcz41_2 : w40.cell? ⟨gb250,2,none⟩ = some (.int .i64 0) := (blk_cell BK250.out 2).trans rfl; have hcz41_3 : w40.cell? ⟨gb250,3,none⟩ = some (.int .i64 0) := (blk_cell BK250.out 3).trans rfl; have hcz41_4 : w40.cell? ⟨gb250,4,none⟩ = some (.int .i64 0) := (blk_cell BK250.out 4).trans rfl; have hcz41_5 : w40.cell? ⟨gb250,5,none⟩ = some (.int .i64 0) := (blk_cell BK250.out 5).trans rfl; have hcz41_6 : w40.cell? ⟨gb250,6,none⟩ = some (.int .i64 0) := (blk_cell BK250.out 6).trans rfl; have hfz41_0 := blk_frozen BK250.out 0; have hfz41_1 := blk_frozen BK250.out 1; have hfz41_2 := blk_frozen BK250.out 2; have hfz41_3 := blk_frozen BK250.out 3; have hfz41_4 := blk_frozen BK250.out 4; have hfz41_5 := blk_frozen BK250.out 5; have hfz41_6 := blk_frozen BK250.out 6))
         have n0_ : Aside0 ((((((((w40.setCell ⟨gb250,0,none⟩ (.int .i64 ((rd_T88 l0 x7_1).f0))).setCell ⟨gb250,1,none⟩ (.int .i64 ((rd_T88 l0 x7_1).f1.f0))).setCell ⟨gb250,2,none⟩ (.int .i64 ((rd_T88 l0 x7_1).f1.f1))).setCell ⟨gb250,3,none⟩ (.int .i64 ((rd_T88 l0 x7_1).f1.f2))).setCell ⟨gb250,4,none⟩ (.int .i64 ((rd_T88 l0 x7_1).f1.f3))).setCell ⟨gb250,5,none⟩ (.int .i64 ((rd_T88 l0 x7_1).f1.f4))).setCell ⟨gb250,6,none⟩ (.int .i64 ((rd_T88 l0 x7_1).f1.f5))).heap[gb250]? = some (.cells #[.int .i64 ((rd_T88 l0 x7_1).f0),.int .i64 ((rd_T88 l0 x7_1).f1.f0),.int .i64 ((rd_T88 l0 x7_1).f1.f1),.int .i64 ((rd_T88 l0 x7_1).f1.f2),.int .i64 ((rd_T88 l0 x7_1).f1.f3),.int .i64 ((rd_T88 l0 x7_1).f1.f4),.int .i64 ((rd_T88 l0 x7_1).f1.f5)] 88 (0,0))) := ⟨by (with_reducible repeat (first | refine blk_drewN ?_ _ | refine blk_drew ?_ | refine blk_alloc ?_ _)); refine blk_put (cs := #[.int .i64 ((rd_T88 l0 x7_1).f0),.int .i64 ((rd_T88 l0 x7_1).f1.f0),.int .i64 ((rd_T88 l0 x7_1).f1.f1),.int .i64 ((rd_T88 l0 x7_1).f1.f2),.int .i64 ((rd_T88 l0 x7_1).f1.f3),.int .i64 ((rd_T88 l0 x7_1).f1.f4),.int .i64 0]) ?_ 6 _ rfl; (with_reducible repeat (first | refine blk_drewN ?_ _ | refine blk_drew ?_ | refine blk_alloc ?_ _)); refine blk_put (cs := #[.int .i64 ((rd_T88 l0 x7_1).f0),.int .i64 ((rd_T88 l0 x7_1).f1.f0),.int .i64 ((rd_T88 l0 x7_1).f1.f1),.int .i64 ((rd_T88 l0 x7_1).f1.f2),.int .i64 ((rd_T88 l0 x7_1).f1.f3),.int .i64 0,.int .i64 0]) ?_ 5 _ rfl; (with_reducible repeat (first | refine blk_drewN ?_ _ | refine blk_drew ?_ | refine blk_alloc ?_ _)); refine blk_put (cs := #[.int .i64 ((rd_T88 l0 x7_1).f0),.int .i64 ((rd_T88 l0 x7_1).f1.f0),.int .i64 ((rd_T88 l0 x7_1).f1.f1),.int .i64 ((rd_T88 l0 x7_1).f1.f2),.int .i64 0,.int .i64 0,.int .i64 0]) ?_ 4 _ rfl; (with_reducible repeat (first | refine blk_drewN ?_ _ | refine blk_drew ?_ | refine blk_alloc ?_ _)); refine blk_put (cs := #[.int .i64 ((rd_T88 l0 x7_1).f0),.int .i64 ((rd_T88 l0 x7_1).f1.f0),.int .i64 ((rd_T88 l0 x7_1).f1.f1),.int .i64 0,.int .i64 0,.int .i64 0,.int .i64 0]) ?_ 3 _ rfl; (with_reducible repeat (first | refine blk_drewN ?_ _ | refine blk_drew ?_ | refine blk_alloc ?_ _)); refine blk_put (cs := #[.int .i64 ((rd_T88 l0 x7_1).f0),.int .i64 ((rd_T88 l0 x7_1).f1.f0),.int .i64 0,.int .i64 0,.int .i64 0,.int .i64 0,.int .i64 0]) ?_ 2 _ rfl; (with_reducible repeat (first | refine blk_drewN ?_ _ | refine blk_drew ?_ | refine blk_alloc ?_ _)); refine blk_put (cs := #[.int .i64 ((rd_T88 l0 x7_1).f0),.int .i64 0,.int .i64 0,.int .i64 0,.int .i64 0,.int .i64 0,.int .i64 0]) ?_ 1 _ rfl; (with_reducible repeat (first | refine blk_drewN ?_ _ | refine blk_drew ?_ | refine blk_alloc ?_ _)); refine blk_put (cs := #[.int .i64 0,.int .i64 0,.int .i64 0,.int .i64 0,.int .i64 0,.int .i64 0,.int .i64 0]) ?_ 0 _ rfl; (with_reducible repeat (first | refine blk_drewN ?_ _ | refine blk_drew ?_ | refine blk_alloc ?_ _)); exact BK250.out⟩
         have n1_ : Aside0 (Below w.heap.size w (((((((w40.setCell ⟨gb250,0,none⟩ (.int .i64 ((rd_T88 l0 x7_1).f0))).setCell ⟨gb250,1,none⟩ (.int .i64 ((rd_T88 l0 x7_1).f1.f0))).setCell ⟨gb250,2,none⟩ (.int .i64 ((rd_T88 l0 x7_1).f1.f1))).setCell ⟨gb250,3,none⟩ (.int .i64 ((rd_T88 l0 x7_1).f1.f2))).setCell ⟨gb250,4,none⟩ (.int .i64 ((rd_T88 l0 x7_1).f1.f3))).setCell ⟨gb250,5,none⟩ (.int .i64 ((rd_T88 l0 x7_1).f1.f4))).setCell ⟨gb250,6,none⟩ (.int .i64 ((rd_T88 l0 x7_1).f1.f5)))) := ⟨by repeat (first | (with_reducible first | exact HB.out | apply below_alloc | apply pw_below_drewN | apply below_drew1 | refine below_set ?_ GE250.out) | exact HB.out)⟩
         (try clear BK250)
         (try clear HB)
         generalize (((((((w40.setCell ⟨gb250,0,none⟩ (.int .i64 ((rd_T88 l0 x7_1).f0))).setCell ⟨gb250,1,none⟩ (.int .i64 ((rd_T88 l0 x7_1).f1.f0))).setCell ⟨gb250,2,none⟩ (.int .i64 ((rd_T88 l0 x7_1).f1.f1))).setCell ⟨gb250,3,none⟩ (.int .i64 ((rd_T88 l0 x7_1).f1.f2))).setCell ⟨gb250,4,none⟩ (.int .i64 ((rd_T88 l0 x7_1).f1.f3))).setCell ⟨gb250,5,none⟩ (.int .i64 ((rd_T88 l0 x7_1).f1.f4))).setCell ⟨gb250,6,none⟩ (.int .i64 ((rd_T88 l0 x7_1).f1.f5))) = w42 at n0_ n1_ ⊢
         have BK250 := n0_
         have HB := n1_
         clear n0_ n1_
         have n0_ := Aside0.mk (blk_drew BK250.out)
         have n1_ := Aside0.mk (below_drew1 HB.out)
         clear BK250
         clear HB
         have BK250 := n0_
         have HB := n1_
         clear n0_ n1_
         refine start_ (n:=35) (S:=fun w' => w'.cell? ⟨gb250,0,none⟩ = some (.int .i64 ((rd_T88 l0 x7_1).f0)) ∧ w'.cell? ⟨gb250,1,none⟩ = some (.int .i64 ((rd_T88 l0 x7_1).f1.f0)) ∧ w'.cell? ⟨gb250,2,none⟩ = some (.int .i64 ((rd_T88 l0 x7_1).f1.f1)) ∧ w'.cell? ⟨gb250,3,none⟩ = some (.int .i64 ((rd_T88 l0 x7_1).f1.f2)) ∧ w'.cell? ⟨gb250,4,none⟩ = some (.int .i64 ((rd_T88 l0 x7_1).f1.f3)) ∧ w'.cell? ⟨gb250,5,none⟩ = some (.int .i64 ((rd_T88 l0 x7_1).f1.f4)) ∧ w'.cell? ⟨gb250,6,none⟩ = some (.int .i64 ((rd_T88 l0 x7_1).f1.f5))) (ds := []) #[F,F,F,F,F,F,F,F,F,F,F,F,F,F,F,F,F,F,F,F,F,F,F,F,F,F,F,F,F,F,F,F,F,F,F] (by kernel_rfl) rfl rfl ⟨(blk_cell BK250.out 0).trans rfl,(blk_cell BK250.out 1).trans rfl,(blk_cell BK250.out 2).trans rfl,(blk_cell BK250.out 3).trans rfl,(blk_cell BK250.out 4).trans rfl,(blk_cell BK250.out 5).trans rfl,(blk_cell BK250.out 6).trans rfl⟩ (fun hHeld => ?_); refine with_tabW impl_BucketsOK.tab4 impl_BucketsOK.bits4 (fun HT_ HW_ => ?_)
         generalize w42.drew = w43 at BK250 HB hHeld ⊢
         refine pure_ (i:=0) (N:=some 12) (v:=?_) (a':=?_) #[T,F,F,F,F,F,F,F,F,F,F,F,F,F,F,F,F,F,F,F,F,F,F,F,F,F,F,F,F,F,F,F,F,F,F] rfl rfl (any_of HT_.out (by kernel_rfl)) (fun _ _ _ h => h) (Or.inl ⟨by rfl,?_⟩) ?_ ?_
         rotate_left
         ·intro w'
          go_simp
          with_reducible rfl
         rotate_left
         ·simp only [Act.put,setIfInBounds_toArray,set_cons_zero,set_cons_succ,i64_w,i32_w]
          rfl
         refine pure_ (i:=1) (N:=some 13) (v:=?_) (a':=?_) #[T,T,F,F,F,F,F,F,F,F,F,F,F,F,F,F,F,F,F,F,F,F,F,F,F,F,F,F,F,F,F,F,F,F,F] rfl rfl (any_of HT_.out (by kernel_rfl)) (fun _ _ _ h => h) (Or.inl ⟨by rfl,?_⟩) ?_ ?_
         rotate_left
         ·intro w'
          go_simp
          with_reducible rfl
         rotate_left
         ·simp only [Act.put,setIfInBounds_toArray,set_cons_zero,set_cons_succ,i64_w,i32_w]
          rfl
         refine pure_ (i:=2) (N:=some 14) (v:=?_) (a':=?_) #[T,T,T,F,F,F,F,F,F,F,F,F,F,F,F,F,F,F,F,F,F,F,F,F,F,F,F,F,F,F,F,F,F,F,F] rfl rfl (any_of HT_.out (by kernel_rfl)) (fun _ _ _ h => h) (Or.inl ⟨by rfl,?_⟩) ?_ ?_
         rotate_left
         ·intro w'
          go_simp
          with_reducible rfl
         rotate_left
         ·simp only [Act.put,setIfInBounds_toArray,set_cons_zero,set_cons_succ,i64_w,i32_w]
          rfl
         refine pure_ (i:=3) (N:=some 15) (v:=?_) (a':=?_) #[T,T,T,T,F,F,F,F,F,F,F,F,F,F,F,F,F,F,F,F,F,F,F,F,F,F,F,F,F,F,F,F,F,F,F] rfl rfl (any_of HT_.out (by kernel_rfl)) (fun _ _ _ h => h) (Or.inl ⟨by rfl,?_⟩) ?_ ?_
         rotate_left
         ·intro w'
          go_simp
          with_reducible rfl
         rotate_left
         ·simp only [Act.put,setIfInBounds_toArray,set_cons_zero,set_cons_succ,i64_w,i32_w]
          rfl
         refine take_ (i:=4) (N:=some 16) (v:=?_) (a':=?_) #[T,T,T,T,T,F,F,F,F,F,F,F,F,F,F,F,F,F,F,F,F,F,F,F,F,F,F,F,F,F,F,F,F,F,F] rfl rfl (take_ofW HT_.out HW_.out (by kernel_rfl)) (fun _ _ _ h => h) (Or.inl ⟨by rfl,?_⟩) hHeld ?_ ?_
         rotate_left
         ·rintro w' ⟨s0,s1,s2,s3,s4,s5,s6⟩
          go_simp
          with_reducible rfl
         rotate_left
         ·simp only [Act.put,setIfInBounds_toArray,set_cons_zero,set_cons_succ,i64_w,i32_w]
          rfl
         refine one_ (i:=5) (N:=some 17) #[T,T,T,T,T,T,F,F,F,F,F,F,F,F,F,F,F,F,F,F,F,F,F,F,F,F,F,F,F,F,F,F,F,F,F] rfl rfl (one_of HT_.out (by kernel_rfl)) (by decide) (fun K hK => ?_)
         refine goes_ Tryd.func89 (by kernel_rfl) rfl #[.int .i64 ((rd_T88 l0 x7_1).f0)] (by rfl) rfl rfl (by (try simp only [List.map_toArray,List.map_cons,List.map_nil]); first | done | rfl | (simp only [List.length_drop,List.length_take]; rfl)) ?_
         with_reducible refine (impl_isMoment.calls ((rd_T88 l0 x7_1).f0) true _ A10.out).mono ?_
         rintro e w' ⟨rfl,⟨nd,rfl⟩⟩
         refine ⟨_,rfl,?_⟩
         refine hK.out _ _ ⟨(blk_cell BK250.out 0).trans rfl,(blk_cell BK250.out 1).trans rfl,(blk_cell BK250.out 2).trans rfl,(blk_cell BK250.out 3).trans rfl,(blk_cell BK250.out 4).trans rfl,(blk_cell BK250.out 5).trans rfl,(blk_cell BK250.out 6).trans rfl⟩ (fun hHeld => ?_)
         clear hK K
         refine norm_ (a':=?_) ?_ ?_
         rotate_left
         ·show Act.put _ (some 17) _ = _
          simp only [Act.put,setIfInBounds_toArray,set_cons_zero,set_cons_succ,i64_w,i32_w]
          rfl
         refine pure_ (i:=6) (N:=some 18) (v:=?_) (a':=?_) #[T,T,T,T,T,T,T,F,F,F,F,F,F,F,F,F,F,F,F,F,F,F,F,F,F,F,F,F,F,F,F,F,F,F,F] rfl rfl (any_of HT_.out (by kernel_rfl)) (fun _ _ _ h => h) (Or.inl ⟨by rfl,?_⟩) ?_ ?_
         rotate_left
         ·intro w'
          go_simp
          with_reducible rfl
         rotate_left
         ·simp only [Act.put,setIfInBounds_toArray,set_cons_zero,set_cons_succ,i64_w,i32_w]
          rfl
         refine pure_ (i:=7) (N:=some 19) (v:=?_) (a':=?_) #[T,T,T,T,T,T,T,T,F,F,F,F,F,F,F,F,F,F,F,F,F,F,F,F,F,F,F,F,F,F,F,F,F,F,F] rfl rfl (any_of HT_.out (by kernel_rfl)) (fun _ _ _ h => h) (Or.inl ⟨by rfl,?_⟩) ?_ ?_
         rotate_left
         ·intro w'
          go_simp
          with_reducible rfl
         rotate_left
         ·simp only [Act.put,setIfInBounds_toArray,set_cons_zero,set_cons_succ,i64_w,i32_w]
          rfl
         refine pure_ (i:=8) (N:=some 20) (v:=?_) (a':=?_) #[T,T,T,T,T,T,T,T,T,F,F,F,F,F,F,F,F,F,F,F,F,F,F,F,F,F,F,F,F,F,F,F,F,F,F] rfl rfl (any_of HT_.out (by kernel_rfl)) (fun _ _ _ h => h) (Or.inl ⟨by rfl,?_⟩) ?_ ?_
         rotate_left
         ·intro w'
          go_simp
          with_reducible rfl
         rotate_left
         ·simp only [Act.put,setIfInBounds_toArray,set_cons_zero,set_cons_succ,i64_w,i32_w]
          rfl
         refine pure_ (i:=9) (N:=some 21) (v:=?_) (a':=?_) #[T,T,T,T,T,T,T,T,T,T,F,F,F,F,F,F,F,F,F,F,F,F,F,F,F,F,F,F,F,F,F,F,F,F,F] rfl rfl (any_of HT_.out (by kernel_rfl)) (fun _ _ _ h => h) (Or.inl ⟨by rfl,?_⟩) ?_ ?_
         rotate_left
         ·intro w'
          go_simp
          with_reducible rfl
         rotate_left
         ·simp only [Act.put,setIfInBounds_toArray,set_cons_zero,set_cons_succ,i64_w,i32_w]
          rfl
         refine take_ (i:=10) (N:=some 22) (v:=?_) (a':=?_) #[T,T,T,T,T,T,T,T,T,T,T,F,F,F,F,F,F,F,F,F,F,F,F,F,F,F,F,F,F,F,F,F,F,F,F] rfl rfl (take_ofW HT_.out HW_.out (by kernel_rfl)) (fun _ _ _ h => h) (Or.inl ⟨by rfl,?_⟩) hHeld ?_ ?_
         rotate_left
         ·rintro w' ⟨s0,s1,s2,s3,s4,s5,s6⟩
          go_simp
          with_reducible rfl
         rotate_left
         ·simp only [Act.put,setIfInBounds_toArray,set_cons_zero,set_cons_succ,i64_w,i32_w]
          rfl
         refine one_ (i:=11) (N:=some 23) #[T,T,T,T,T,T,T,T,T,T,T,T,F,F,F,F,F,F,F,F,F,F,F,F,F,F,F,F,F,F,F,F,F,F,F] rfl rfl (one_of HT_.out (by kernel_rfl)) (by decide) (fun K hK => ?_)
         refine goes_ Tryd.func103 (by kernel_rfl) rfl #[.agg #[.int .i64 ((rd_T88 l0 x7_1).f1.f0),.int .i64 ((rd_T88 l0 x7_1).f1.f1),.int .i64 ((rd_T88 l0 x7_1).f1.f2),.int .i64 ((rd_T88 l0 x7_1).f1.f3),.int .i64 ((rd_T88 l0 x7_1).f1.f4),.int .i64 ((rd_T88 l0 x7_1).f1.f5)]] (by rfl) rfl rfl (by (try simp only [List.map_toArray,List.map_cons,List.map_nil]); first | done | rfl | (simp only [List.length_drop,List.length_take]; rfl)) ?_
         with_reducible refine (impl_AggOK.calls ((rd_T88 l0 x7_1).f1.f0) ((rd_T88 l0 x7_1).f1.f1) ((rd_T88 l0 x7_1).f1.f2) ((rd_T88 l0 x7_1).f1.f3) ((rd_T88 l0 x7_1).f1.f4) ((rd_T88 l0 x7_1).f1.f5) false _ A12.out).mono ?_
         rintro e w44 ⟨rfl,hb⟩
         refine ⟨_,rfl,?_⟩
         have n0_ := Aside0.mk (blk_below (g:=gb250) (o:=.cells #[.int .i64 ((rd_T88 l0 x7_1).f0),.int .i64 ((rd_T88 l0 x7_1).f1.f0),.int .i64 ((rd_T88 l0 x7_1).f1.f1),.int .i64 ((rd_T88 l0 x7_1).f1.f2),.int .i64 ((rd_T88 l0 x7_1).f1.f3),.int .i64 ((rd_T88 l0 x7_1).f1.f4),.int .i64 ((rd_T88 l0 x7_1).f1.f5)] 88 (0,0)) (by (with_reducible repeat (first | refine blk_drewN ?_ _ | refine blk_drew ?_ | refine blk_alloc ?_ _)); exact BK250.out) hb)
         have n1_ := Aside0.mk (below_step (by repeat (first | (with_reducible first | exact HB.out | apply below_alloc | apply pw_below_drewN | apply below_drew1 | refine below_set ?_ GE250.out) | exact HB.out)) hb)
         clear BK250
         clear HB
         have BK250 := n0_
         have HB := n1_
         clear n0_ n1_
         (try clear hb)
         (try clear hb2)
         (try clear hk)
         (try clear hi)
         refine hK.out _ _ ⟨(blk_cell BK250.out 0).trans rfl,(blk_cell BK250.out 1).trans rfl,(blk_cell BK250.out 2).trans rfl,(blk_cell BK250.out 3).trans rfl,(blk_cell BK250.out 4).trans rfl,(blk_cell BK250.out 5).trans rfl,(blk_cell BK250.out 6).trans rfl⟩ (fun hHeld => ?_)
         clear hK K
         refine norm_ (a':=?_) ?_ ?_
         rotate_left
         ·show Act.put _ (some 23) _ = _
          simp only [Act.put,setIfInBounds_toArray,set_cons_zero,set_cons_succ,i64_w,i32_w]
          rfl
         refine pure_ (i:=12) (N:=some 24) (v:=?_) (a':=?_) #[T,T,T,T,T,T,T,T,T,T,T,T,T,F,F,F,F,F,F,F,F,F,F,F,F,F,F,F,F,F,F,F,F,F,F] rfl rfl (any_of HT_.out (by kernel_rfl)) (fun _ _ _ h => h) (Or.inl ⟨by rfl,?_⟩) ?_ ?_
         rotate_left
         ·intro w'
          go_simp
          with_reducible rfl
         rotate_left
         ·simp only [Act.put,setIfInBounds_toArray,set_cons_zero,set_cons_succ,i64_w,i32_w]
          rfl
         refine pure_ (i:=13) (N:=some 25) (v:=?_) (a':=?_) #[T,T,T,T,T,T,T,T,T,T,T,T,T,T,F,F,F,F,F,F,F,F,F,F,F,F,F,F,F,F,F,F,F,F,F] rfl rfl (any_of HT_.out (by kernel_rfl)) (fun _ _ _ h => h) (Or.inl ⟨by rfl,?_⟩) ?_ ?_
         rotate_left
         ·intro w'
          go_simp
          with_reducible rfl
         rotate_left
         ·simp only [Act.put,setIfInBounds_toArray,set_cons_zero,set_cons_succ,i64_w,i32_w]
          rfl
         refine pure_ (i:=14) (N:=some 26) (v:=?_) (a':=?_) #[T,T,T,T,T,T,T,T,T,T,T,T,T,T,T,F,F,F,F,F,F,F,F,F,F,F,F,F,F,F,F,F,F,F,F] rfl rfl (any_of HT_.out (by kernel_rfl)) (fun _ _ _ h => h) (Or.inl ⟨by rfl,?_⟩) ?_ ?_
         rotate_left
         ·intro w'
          go_simp
          with_reducible rfl
         rotate_left
         ·simp only [Act.put,setIfInBounds_toArray,set_cons_zero,set_cons_succ,i64_w,i32_w]
          rfl
         refine pure_ (i:=15) (N:=some 27) (v:=undef) (a':=?_) #[T,T,T,T,T,T,T,T,T,T,T,T,T,T,T,T,F,F,F,F,F,F,F,F,F,F,F,F,F,F,F,F,F,F,F] rfl rfl (any_of HT_.out (by kernel_rfl)) (fun _ _ _ h => h) (Or.inr ⟨by rfl,rfl⟩) ?_ ?_
         rotate_left
         ·simp only [Act.put,setIfInBounds_toArray,set_cons_zero,set_cons_succ,i64_w,i32_w]
          rfl
         refine pure_ (i:=16) (N:=some 28) (v:=undef) (a':=?_) #[T,T,T,T,T,T,T,T,T,T,T,T,T,T,T,T,T,F,F,F,F,F,F,F,F,F,F,F,F,F,F,F,F,F,F] rfl rfl (any_of HT_.out (by kernel_rfl)) (fun _ _ _ h => h) (Or.inr ⟨by rfl,rfl⟩) ?_ ?_
         rotate_left
         ·simp only [Act.put,setIfInBounds_toArray,set_cons_zero,set_cons_succ,i64_w,i32_w]
          rfl
         refine pure_ (i:=17) (N:=some 29) (v:=undef) (a':=?_) #[T,T,T,T,T,T,T,T,T,T,T,T,T,T,T,T,T,T,F,F,F,F,F,F,F,F,F,F,F,F,F,F,F,F,F] rfl rfl (any_of HT_.out (by kernel_rfl)) (fun _ _ _ h => h) (Or.inr ⟨by rfl,rfl⟩) ?_ ?_
         rotate_left
         ·simp only [Act.put,setIfInBounds_toArray,set_cons_zero,set_cons_succ,i64_w,i32_w]
          rfl
         refine pure_ (i:=18) (N:=some 30) (v:=undef) (a':=?_) #[T,T,T,T,T,T,T,T,T,T,T,T,T,T,T,T,T,T,T,F,F,F,F,F,F,F,F,F,F,F,F,F,F,F,F] rfl rfl (any_of HT_.out (by kernel_rfl)) (fun _ _ _ h => h) (Or.inr ⟨by rfl,rfl⟩) ?_ ?_
         rotate_left
         ·simp only [Act.put,setIfInBounds_toArray,set_cons_zero,set_cons_succ,i64_w,i32_w]
          rfl
         refine pure_ (i:=19) (N:=some 31) (v:=?_) (a':=?_) #[T,T,T,T,T,T,T,T,T,T,T,T,T,T,T,T,T,T,T,T,F,F,F,F,F,F,F,F,F,F,F,F,F,F,F] rfl rfl (any_of HT_.out (by kernel_rfl)) (fun _ _ _ h => h) (Or.inl ⟨by rfl,?_⟩) ?_ ?_
         rotate_left
         ·intro w'
          go_simp
          with_reducible rfl
         rotate_left
         ·simp only [Act.put,setIfInBounds_toArray,set_cons_zero,set_cons_succ,i64_w,i32_w]
          rfl
         refine pure_ (i:=20) (N:=some 32) (v:=?_) (a':=?_) #[T,T,T,T,T,T,T,T,T,T,T,T,T,T,T,T,T,T,T,T,T,F,F,F,F,F,F,F,F,F,F,F,F,F,F] rfl rfl (any_of HT_.out (by kernel_rfl)) (fun _ _ _ h => h) (Or.inl ⟨by rfl,?_⟩) ?_ ?_
         rotate_left
         ·intro w'
          go_simp
          with_reducible rfl
         rotate_left
         ·simp only [Act.put,setIfInBounds_toArray,set_cons_zero,set_cons_succ,i64_w,i32_w]
          rfl
         refine pure_ (i:=21) (N:=some 33) (v:=undef) (a':=?_) #[T,T,T,T,T,T,T,T,T,T,T,T,T,T,T,T,T,T,T,T,T,T,F,F,F,F,F,F,F,F,F,F,F,F,F] rfl rfl (any_of HT_.out (by kernel_rfl)) (fun _ _ _ h => h) (Or.inr ⟨by rfl,rfl⟩) ?_ ?_
         rotate_left
         ·simp only [Act.put,setIfInBounds_toArray,set_cons_zero,set_cons_succ,i64_w,i32_w]
          rfl
         refine pure_ (i:=22) (N:=some 34) (v:=undef) (a':=?_) #[T,T,T,T,T,T,T,T,T,T,T,T,T,T,T,T,T,T,T,T,T,T,T,F,F,F,F,F,F,F,F,F,F,F,F] rfl rfl (any_of HT_.out (by kernel_rfl)) (fun _ _ _ h => h) (Or.inr ⟨by rfl,rfl⟩) ?_ ?_
         rotate_left
         ·simp only [Act.put,setIfInBounds_toArray,set_cons_zero,set_cons_succ,i64_w,i32_w]
          rfl
         refine pure_ (i:=23) (N:=some 35) (v:=undef) (a':=?_) #[T,T,T,T,T,T,T,T,T,T,T,T,T,T,T,T,T,T,T,T,T,T,T,T,F,F,F,F,F,F,F,F,F,F,F] rfl rfl (any_of HT_.out (by kernel_rfl)) (fun _ _ _ h => h) (Or.inr ⟨by rfl,rfl⟩) ?_ ?_
         rotate_left
         ·simp only [Act.put,setIfInBounds_toArray,set_cons_zero,set_cons_succ,i64_w,i32_w]
          rfl
         refine pure_ (i:=24) (N:=some 36) (v:=undef) (a':=?_) #[T,T,T,T,T,T,T,T,T,T,T,T,T,T,T,T,T,T,T,T,T,T,T,T,T,F,F,F,F,F,F,F,F,F,F] rfl rfl (any_of HT_.out (by kernel_rfl)) (fun _ _ _ h => h) (Or.inr ⟨by rfl,rfl⟩) ?_ ?_
         rotate_left
         ·simp only [Act.put,setIfInBounds_toArray,set_cons_zero,set_cons_succ,i64_w,i32_w]
          rfl
         refine pure_ (i:=25) (N:=some 37) (v:=undef) (a':=?_) #[T,T,T,T,T,T,T,T,T,T,T,T,T,T,T,T,T,T,T,T,T,T,T,T,T,T,F,F,F,F,F,F,F,F,F] rfl rfl (any_of HT_.out (by kernel_rfl)) (fun _ _ _ h => h) (Or.inr ⟨by rfl,rfl⟩) ?_ ?_
         rotate_left
         ·simp only [Act.put,setIfInBounds_toArray,set_cons_zero,set_cons_succ,i64_w,i32_w]
          rfl
         refine pure_ (i:=26) (N:=some 38) (v:=undef) (a':=?_) #[T,T,T,T,T,T,T,T,T,T,T,T,T,T,T,T,T,T,T,T,T,T,T,T,T,T,T,F,F,F,F,F,F,F,F] rfl rfl (any_of HT_.out (by kernel_rfl)) (fun _ _ _ h => h) (Or.inr ⟨by rfl,rfl⟩) ?_ ?_
         rotate_left
         ·simp only [Act.put,setIfInBounds_toArray,set_cons_zero,set_cons_succ,i64_w,i32_w]
          rfl
         refine pure_ (i:=27) (N:=some 39) (v:=undef) (a':=?_) #[T,T,T,T,T,T,T,T,T,T,T,T,T,T,T,T,T,T,T,T,T,T,T,T,T,T,T,T,F,F,F,F,F,F,F] rfl rfl (any_of HT_.out (by kernel_rfl)) (fun _ _ _ h => h) (Or.inr ⟨by rfl,rfl⟩) ?_ ?_
         rotate_left
         ·simp only [Act.put,setIfInBounds_toArray,set_cons_zero,set_cons_succ,i64_w,i32_w]
          rfl
         refine pure_ (i:=28) (N:=some 40) (v:=undef) (a':=?_) #[T,T,T,T,T,T,T,T,T,T,T,T,T,T,T,T,T,T,T,T,T,T,T,T,T,T,T,T,T,F,F,F,F,F,F] rfl rfl (any_of HT_.out (by kernel_rfl)) (fun _ _ _ h => h) (Or.inr ⟨by rfl,rfl⟩) ?_ ?_
         rotate_left
         ·simp only [Act.put,setIfInBounds_toArray,set_cons_zero,set_cons_succ,i64_w,i32_w]
          rfl
         refine pure_ (i:=29) (N:=some 41) (v:=undef) (a':=?_) #[T,T,T,T,T,T,T,T,T,T,T,T,T,T,T,T,T,T,T,T,T,T,T,T,T,T,T,T,T,T,F,F,F,F,F] rfl rfl (any_of HT_.out (by kernel_rfl)) (fun _ _ _ h => h) (Or.inr ⟨by rfl,rfl⟩) ?_ ?_
         rotate_left
         ·simp only [Act.put,setIfInBounds_toArray,set_cons_zero,set_cons_succ,i64_w,i32_w]
          rfl
         refine pure_ (i:=30) (N:=some 42) (v:=undef) (a':=?_) #[T,T,T,T,T,T,T,T,T,T,T,T,T,T,T,T,T,T,T,T,T,T,T,T,T,T,T,T,T,T,T,F,F,F,F] rfl rfl (any_of HT_.out (by kernel_rfl)) (fun _ _ _ h => h) (Or.inr ⟨by rfl,rfl⟩) ?_ ?_
         rotate_left
         ·simp only [Act.put,setIfInBounds_toArray,set_cons_zero,set_cons_succ,i64_w,i32_w]
          rfl
         refine pure_ (i:=31) (N:=some 43) (v:=undef) (a':=?_) #[T,T,T,T,T,T,T,T,T,T,T,T,T,T,T,T,T,T,T,T,T,T,T,T,T,T,T,T,T,T,T,T,F,F,F] rfl rfl (any_of HT_.out (by kernel_rfl)) (fun _ _ _ h => h) (Or.inr ⟨by rfl,rfl⟩) ?_ ?_
         rotate_left
         ·simp only [Act.put,setIfInBounds_toArray,set_cons_zero,set_cons_succ,i64_w,i32_w]
          rfl
         refine pure_ (i:=32) (N:=some 44) (v:=undef) (a':=?_) #[T,T,T,T,T,T,T,T,T,T,T,T,T,T,T,T,T,T,T,T,T,T,T,T,T,T,T,T,T,T,T,T,T,F,F] rfl rfl (any_of HT_.out (by kernel_rfl)) (fun _ _ _ h => h) (Or.inr ⟨by rfl,rfl⟩) ?_ ?_
         rotate_left
         ·simp only [Act.put,setIfInBounds_toArray,set_cons_zero,set_cons_succ,i64_w,i32_w]
          rfl
         refine pure_ (i:=33) (N:=some 45) (v:=undef) (a':=?_) #[T,T,T,T,T,T,T,T,T,T,T,T,T,T,T,T,T,T,T,T,T,T,T,T,T,T,T,T,T,T,T,T,T,T,F] rfl rfl (any_of HT_.out (by kernel_rfl)) (fun _ _ _ h => h) (Or.inr ⟨by rfl,rfl⟩) ?_ ?_
         rotate_left
         ·simp only [Act.put,setIfInBounds_toArray,set_cons_zero,set_cons_succ,i64_w,i32_w]
          rfl
         refine pure_ (i:=34) (N:=some 46) (v:=?_) (a':=?_) #[T,T,T,T,T,T,T,T,T,T,T,T,T,T,T,T,T,T,T,T,T,T,T,T,T,T,T,T,T,T,T,T,T,T,T] rfl rfl (any_of HT_.out (by kernel_rfl)) (fun _ _ _ h => h) (Or.inl ⟨by rfl,?_⟩) ?_ ?_
         rotate_left
         ·intro w'
          go_simp
          with_reducible rfl
         rotate_left
         ·simp only [Act.put,setIfInBounds_toArray,set_cons_zero,set_cons_succ,i64_w,i32_w]
          rfl
         refine done_ (done_of HT_.out (by kernel_rfl)) ?_
         try go_wp2
         go_ret
         exact ⟨by first | rfl | (simp only [i64_w,i32_w] <;> rfl) | (simp [errW_none,errW_some] <;> rfl) | (simp [*,errW_none,errW_some] <;> rfl),by repeat (first | (with_reducible first | exact HB.out | apply below_alloc | apply pw_below_drewN | apply below_drew1 | refine below_set ?_ GE250.out) | exact HB.out)⟩
       ·replace c11 := Bool.eq_false_iff.mpr c11
        subst c11
        have H1 : (some false) = some r := by rw [if_neg (show ¬ (false = true) by decide)] at H; exact H
        clear H
        have H := H1
        clear H1
        obtain rfl := Option.some.inj H
        have p249 : 0 ≤ (x7_1 : Int) := of_decide_eq_true (by first | (with_reducible assumption) | assumption)
        have q249 : x7_1 < (l0.length : Int) := of_decide_eq_true (by first | (with_reducible assumption) | assumption)
        obtain ⟨ad249,e249,hx249_0,hx249_1,hx249_2,hx249_3,hx249_4,hx249_5,hx249_6⟩ := at_T88 HR0.out x7_1 p249 q249
        cases e249
        replace hx249_0 := (HB.out.cell (bl_ w _ hx249_0)).trans hx249_0
        replace hx249_1 := (HB.out.cell (bl_ w _ hx249_1)).trans hx249_1
        replace hx249_2 := (HB.out.cell (bl_ w _ hx249_2)).trans hx249_2
        replace hx249_3 := (HB.out.cell (bl_ w _ hx249_3)).trans hx249_3
        replace hx249_4 := (HB.out.cell (bl_ w _ hx249_4)).trans hx249_4
        replace hx249_5 := (HB.out.cell (bl_ w _ hx249_5)).trans hx249_5
        replace hx249_6 := (HB.out.cell (bl_ w _ hx249_6)).trans hx249_6
        replace p249 := eq_true p249
        replace q249 := eq_true q249
        try go_wp2_with (first | ((with_reducible refine gate_dst (N:=4) rfl ?_); refine box_event ?hg (N:=4) ?hd (cs := #[.int .i64 0,.int .i64 0,.int .i64 0,.int .i64 0,.int .i64 0,.int .i64 0,.int .i64 0]) (t:=88) ?hr ?_; (case hd => rfl); (case hg => rfl); (case hr => first | (go_simp; done) | (go_simp; rfl)); intro gb250 hg w45 hbox hb; have n0_ := Aside0.mk (below_step (by repeat (first | (with_reducible first | exact HB.out | apply below_alloc | apply pw_below_drewN | apply below_drew1) | exact HB.out)) hb); have n1_ := Aside0.mk (hbox); have n2_ := Aside0.mk ((by rw [hg]; exact (below_size (by repeat (first | (with_reducible first | exact HB.out | apply below_alloc | apply pw_below_drewN | apply below_drew1) | exact HB.out))) : w.heap.size ≤ gb250)); have n3_ := Aside0.mk ((by rw [hg]; exact (below_size (by repeat (first | (with_reducible first | exact HB.out | apply below_alloc | apply pw_below_drewN | apply below_drew1) | exact HB.out))) : w.heap.size ≤ gb250)); clear HB; have HB := n0_; have BK250 := n1_; have GW250 := n2_; have GE250 := n3_; clear n0_ n1_ n2_ n3_; clear hb hbox hg; have hcz46_0 : w45.cell? ⟨gb250,0,none⟩ = some (.int .i64 0) := (blk_cell BK250.out 0).trans rfl; have hcz46_1 : w45.cell? ⟨gb250,1,none⟩ = some (.int .i64 0) := (blk_cell BK250.out 1).trans rfl; have hcz46_2 : w45.cell? ⟨gb250,2,none⟩ = some (.int .i64 0) := (blk_cell BK250.out 2).trans rfl; have hcz46_3 : w45.cell? ⟨gb250,3,none⟩ = some (.int .i64 0) := (blk_cell BK250.out 3).trans rfl; have hcz46_4 : w45.cell? ⟨gb250,4,none⟩ = some (.int .i64 0) := (blk_cell BK250.out 4).trans rfl; have hcz46_5 : w45.cell? ⟨gb250,5,none⟩ = some (.int .i64 0) := (blk_cell BK250.out 5).trans rfl; have hcz46_6 : w45.cell? ⟨gb250,6,none⟩ = some (.int .i64 0) := (blk_cell BK250.out 6).trans rfl; have hfz46_0 := blk_frozen BK250.out 0; have hfz46_1 := blk_frozen BK250.out 1; have hfz46_2 := blk_frozen BK250.out 2; have hfz46_3 := blk_frozen BK250.out 3; have hfz46_4 := blk_frozen BK250.out 4; have hfz46_5 := blk_frozen BK250.out 5; have hfz46_6 := blk_frozen BK250.out 6))
        have n0_ : Aside0 ((((((((w45.setCell ⟨gb250,0,none⟩ (.int .i64 ((rd_T88 l0 x7_1).f0))).setCell ⟨gb250,1,none⟩ (.int .i64 ((rd_T88 l0 x7_1).f1.f0))).setCell ⟨gb250,2,none⟩ (.int .i64 ((rd_T88 l0 x7_1).f1.f1))).setCell ⟨gb250,3,none⟩ (.int .i64 ((rd_T88 l0 x7_1).f1.f2))).setCell ⟨gb250,4,none⟩ (.int .i64 ((rd_T88 l0 x7_1).f1.f3))).setCell ⟨gb250,5,none⟩ (.int .i64 ((rd_T88 l0 x7_1).f1.f4))).setCell ⟨gb250,6,none⟩ (.int .i64 ((rd_T88 l0 x7_1).f1.f5))).heap[gb250]? = some (.cells #[.int .i64 ((rd_T88 l0 x7_1).f0),.int .i64 ((rd_T88 l0 x7_1).f1.f0),.int .i64 ((rd_T88 l0 x7_1).f1.f1),.int .i64 ((rd_T88 l0 x7_1).f1.f2),.int .i64 ((rd_T88 l0 x7_1).f1.f3),.int .i64 ((rd_T88 l0 x7_1).f1.f4),.int .i64 ((rd_T88 l0 x7_1).f1.f5)] 88 (0,0))) := ⟨by (with_reducible repeat (first | refine blk_drewN ?_ _ | refine blk_drew ?_ | refine blk_alloc ?_ _)); refine blk_put (cs := #[.int .i64 ((rd_T88 l0 x7_1).f0),.int .i64 ((rd_T88 l0 x7_1).f1.f0),.int .i64 ((rd_T88 l0 x7_1).f1.f1),.int .i64 ((rd_T88 l0 x7_1).f1.f2),.int .i64 ((rd_T88 l0 x7_1).f1.f3),.int .i64 ((rd_T88 l0 x7_1).f1.f4),.int .i64 0]) ?_ 6 _ rfl; (with_reducible repeat (first | refine blk_drewN ?_ _ | refine blk_drew ?_ | refine blk_alloc ?_ _)); refine blk_put (cs := #[.int .i64 ((rd_T88 l0 x7_1).f0),.int .i64 ((rd_T88 l0 x7_1).f1.f0),.int .i64 ((rd_T88 l0 x7_1).f1.f1),.int .i64 ((rd_T88 l0 x7_1).f1.f2),.int .i64 ((rd_T88 l0 x7_1).f1.f3),.int .i64 0,.int .i64 0]) ?_ 5 _ rfl; (with_reducible repeat (first | refine blk_drewN ?_ _ | refine blk_drew ?_ | refine blk_alloc ?_ _)); refine blk_put (cs := #[.int .i64 ((rd_T88 l0 x7_1).f0),.int .i64 ((rd_T88 l0 x7_1).f1.f0),.int .i64 ((rd_T88 l0 x7_1).f1.f1),.int .i64 ((rd_T88 l0 x7_1).f1.f2),.int .i64 0,.int .i64 0,.int .i64 0]) ?_ 4 _ rfl; (with_reducible repeat (first | refine blk_drewN ?_ _ | refine blk_drew ?_ | refine blk_alloc ?_ _)); refine blk_put (cs := #[.int .i64 ((rd_T88 l0 x7_1).f0),.int .i64 ((rd_T88 l0 x7_1).f1.f0),.int .i64 ((rd_T88 l0 x7_1).f1.f1),.int .i64 0,.int .i64 0,.int .i64 0,.int .i64 0]) ?_ 3 _ rfl; (with_reducible repeat (first | refine blk_drewN ?_ _ | refine blk_drew ?_ | refine blk_alloc ?_ _)); refine blk_put (cs := #[.int .i64 ((rd_T88 l0 x7_1).f0),.int .i64 ((rd_T88 l0 x7_1).f1.f0),.int .i64 0,.int .i64 0,.int .i64 0,.int .i64 0,.int .i64 0]) ?_ 2 _ rfl; (with_reducible repeat (first | refine blk_drewN ?_ _ | refine blk_drew ?_ | refine blk_alloc ?_ _)); refine blk_put (cs := #[.int .i64 ((rd_T88 l0 x7_1).f0),.int .i64 0,.int .i64 0,.int .i64 0,.int .i64 0,.int .i64 0,.int .i64 0]) ?_ 1 _ rfl; (with_reducible repeat (first | refine blk_drewN ?_ _ | refine blk_drew ?_ | refine blk_alloc ?_ _)); refine blk_put (cs := #[.int .i64 0,.int .i64 0,.int .i64 0,.int .i64 0,.int .i64 0,.int .i64 0,.int .i64 0]) ?_ 0 _ rfl; (with_reducible repeat (first | refine blk_drewN ?_ _ | refine blk_drew ?_ | refine blk_alloc ?_ _)); exact BK250.out⟩
        have n1_ : Aside0 (Below w.heap.size w (((((((w45.setCell ⟨gb250,0,none⟩ (.int .i64 ((rd_T88 l0 x7_1).f0))).setCell ⟨gb250,1,none⟩ (.int .i64 ((rd_T88 l0 x7_1).f1.f0))).setCell ⟨gb250,2,none⟩ (.int .i64 ((rd_T88 l0 x7_1).f1.f1))).setCell ⟨gb250,3,none⟩ (.int .i64 ((rd_T88 l0 x7_1).f1.f2))).setCell ⟨gb250,4,none⟩ (.int .i64 ((rd_T88 l0 x7_1).f1.f3))).setCell ⟨gb250,5,none⟩ (.int .i64 ((rd_T88 l0 x7_1).f1.f4))).setCell ⟨gb250,6,none⟩ (.int .i64 ((rd_T88 l0 x7_1).f1.f5)))) := ⟨by repeat (first | (with_reducible first | exact HB.out | apply below_alloc | apply pw_below_drewN | apply below_drew1 | refine below_set ?_ GE250.out) | exact HB.out)⟩
        (try clear BK250)
        (try clear HB)
        generalize (((((((w45.setCell ⟨gb250,0,none⟩ (.int .i64 ((rd_T88 l0 x7_1).f0))).setCell ⟨gb250,1,none⟩ (.int .i64 ((rd_T88 l0 x7_1).f1.f0))).setCell ⟨gb250,2,none⟩ (.int .i64 ((rd_T88 l0 x7_1).f1.f1))).setCell ⟨gb250,3,none⟩ (.int .i64 ((rd_T88 l0 x7_1).f1.f2))).setCell ⟨gb250,4,none⟩ (.int .i64 ((rd_T88 l0 x7_1).f1.f3))).setCell ⟨gb250,5,none⟩ (.int .i64 ((rd_T88 l0 x7_1).f1.f4))).setCell ⟨gb250,6,none⟩ (.int .i64 ((rd_T88 l0 x7_1).f1.f5))) = w47 at n0_ n1_ ⊢
        have BK250 := n0_
        have HB := n1_
        clear n0_ n1_
        have n0_ := Aside0.mk (blk_drew BK250.out)
        have n1_ := Aside0.mk (below_drew1 HB.out)
        clear BK250
        clear HB
        have BK250 := n0_
        have HB := n1_
        clear n0_ n1_
        refine start_ (n:=35) (S:=fun w' => w'.cell? ⟨gb250,0,none⟩ = some (.int .i64 ((rd_T88 l0 x7_1).f0)) ∧ w'.cell? ⟨gb250,1,none⟩ = some (.int .i64 ((rd_T88 l0 x7_1).f1.f0)) ∧ w'.cell? ⟨gb250,2,none⟩ = some (.int .i64 ((rd_T88 l0 x7_1).f1.f1)) ∧ w'.cell? ⟨gb250,3,none⟩ = some (.int .i64 ((rd_T88 l0 x7_1).f1.f2)) ∧ w'.cell? ⟨gb250,4,none⟩ = some (.int .i64 ((rd_T88 l0 x7_1).f1.f3)) ∧ w'.cell? ⟨gb250,5,none⟩ = some (.int .i64 ((rd_T88 l0 x7_1).f1.f4)) ∧ w'.cell? ⟨gb250,6,none⟩ = some (.int .i64 ((rd_T88 l0 x7_1).f1.f5))) (ds := []) #[F,F,F,F,F,F,F,F,F,F,F,F,F,F,F,F,F,F,F,F,F,F,F,F,F,F,F,F,F,F,F,F,F,F,F] (by kernel_rfl) rfl rfl ⟨(blk_cell BK250.out 0).trans rfl,(blk_cell BK250.out 1).trans rfl,(blk_cell BK250.out 2).trans rfl,(blk_cell BK250.out 3).trans rfl,(blk_cell BK250.out 4).trans rfl,(blk_cell BK250.out 5).trans rfl,(blk_cell BK250.out 6).trans rfl⟩ (fun hHeld => ?_); refine with_tabW impl_BucketsOK.tab4 impl_BucketsOK.bits4 (fun HT_ HW_ => ?_)
        generalize w47.drew = w48 at BK250 HB hHeld ⊢
        refine pure_ (i:=0) (N:=some 12) (v:=?_) (a':=?_) #[T,F,F,F,F,F,F,F,F,F,F,F,F,F,F,F,F,F,F,F,F,F,F,F,F,F,F,F,F,F,F,F,F,F,F] rfl rfl (any_of HT_.out (by kernel_rfl)) (fun _ _ _ h => h) (Or.inl ⟨by rfl,?_⟩) ?_ ?_
        rotate_left
        ·intro w'
         go_simp
         with_reducible rfl
        rotate_left
        ·simp only [Act.put,setIfInBounds_toArray,set_cons_zero,set_cons_succ,i64_w,i32_w]
         rfl
        refine pure_ (i:=1) (N:=some 13) (v:=?_) (a':=?_) #[T,T,F,F,F,F,F,F,F,F,F,F,F,F,F,F,F,F,F,F,F,F,F,F,F,F,F,F,F,F,F,F,F,F,F] rfl rfl (any_of HT_.out (by kernel_rfl)) (fun _ _ _ h => h) (Or.inl ⟨by rfl,?_⟩) ?_ ?_
        rotate_left
        ·intro w'
         go_simp
         with_reducible rfl
        rotate_left
        ·simp only [Act.put,setIfInBounds_toArray,set_cons_zero,set_cons_succ,i64_w,i32_w]
         rfl
        refine pure_ (i:=2) (N:=some 14) (v:=?_) (a':=?_) #[T,T,T,F,F,F,F,F,F,F,F,F,F,F,F,F,F,F,F,F,F,F,F,F,F,F,F,F,F,F,F,F,F,F,F] rfl rfl (any_of HT_.out (by kernel_rfl)) (fun _ _ _ h => h) (Or.inl ⟨by rfl,?_⟩) ?_ ?_
        rotate_left
        ·intro w'
         go_simp
         with_reducible rfl
        rotate_left
        ·simp only [Act.put,setIfInBounds_toArray,set_cons_zero,set_cons_succ,i64_w,i32_w]
         rfl
        refine pure_ (i:=3) (N:=some 15) (v:=?_) (a':=?_) #[T,T,T,T,F,F,F,F,F,F,F,F,F,F,F,F,F,F,F,F,F,F,F,F,F,F,F,F,F,F,F,F,F,F,F] rfl rfl (any_of HT_.out (by kernel_rfl)) (fun _ _ _ h => h) (Or.inl ⟨by rfl,?_⟩) ?_ ?_
        rotate_left
        ·intro w'
         go_simp
         with_reducible rfl
        rotate_left
        ·simp only [Act.put,setIfInBounds_toArray,set_cons_zero,set_cons_succ,i64_w,i32_w]
         rfl
        refine take_ (i:=4) (N:=some 16) (v:=?_) (a':=?_) #[T,T,T,T,T,F,F,F,F,F,F,F,F,F,F,F,F,F,F,F,F,F,F,F,F,F,F,F,F,F,F,F,F,F,F] rfl rfl (take_ofW HT_.out HW_.out (by kernel_rfl)) (fun _ _ _ h => h) (Or.inl ⟨by rfl,?_⟩) hHeld ?_ ?_
        rotate_left
        ·rintro w' ⟨s0,s1,s2,s3,s4,s5,s6⟩
         go_simp
         with_reducible rfl
        rotate_left
        ·simp only [Act.put,setIfInBounds_toArray,set_cons_zero,set_cons_succ,i64_w,i32_w]
         rfl
        refine one_ (i:=5) (N:=some 17) #[T,T,T,T,T,T,F,F,F,F,F,F,F,F,F,F,F,F,F,F,F,F,F,F,F,F,F,F,F,F,F,F,F,F,F] rfl rfl (one_of HT_.out (by kernel_rfl)) (by decide) (fun K hK => ?_)
        refine goes_ Tryd.func89 (by kernel_rfl) rfl #[.int .i64 ((rd_T88 l0 x7_1).f0)] (by rfl) rfl rfl (by (try simp only [List.map_toArray,List.map_cons,List.map_nil]); first | done | rfl | (simp only [List.length_drop,List.length_take]; rfl)) ?_
        with_reducible refine (impl_isMoment.calls ((rd_T88 l0 x7_1).f0) false _ A10.out).mono ?_
        rintro e w' ⟨rfl,⟨nd,rfl⟩⟩
        refine ⟨_,rfl,?_⟩
        refine hK.out _ _ ⟨(blk_cell BK250.out 0).trans rfl,(blk_cell BK250.out 1).trans rfl,(blk_cell BK250.out 2).trans rfl,(blk_cell BK250.out 3).trans rfl,(blk_cell BK250.out 4).trans rfl,(blk_cell BK250.out 5).trans rfl,(blk_cell BK250.out 6).trans rfl⟩ (fun hHeld => ?_)
        clear hK K
        refine norm_ (a':=?_) ?_ ?_
        rotate_left
        ·show Act.put _ (some 17) _ = _
         simp only [Act.put,setIfInBounds_toArray,set_cons_zero,set_cons_succ,i64_w,i32_w]
         rfl
        refine pure_ (i:=6) (N:=some 18) (v:=?_) (a':=?_) #[T,T,T,T,T,T,T,F,F,F,F,F,F,F,F,F,F,F,F,F,F,F,F,F,F,F,F,F,F,F,F,F,F,F,F] rfl rfl (any_of HT_.out (by kernel_rfl)) (fun _ _ _ h => h) (Or.inl ⟨by rfl,?_⟩) ?_ ?_
        rotate_left
        ·intro w'
         go_simp
         with_reducible rfl
        rotate_left
        ·simp only [Act.put,setIfInBounds_toArray,set_cons_zero,set_cons_succ,i64_w,i32_w]
         rfl
        refine pure_ (i:=7) (N:=some 19) (v:=?_) (a':=?_) #[T,T,T,T,T,T,T,T,F,F,F,F,F,F,F,F,F,F,F,F,F,F,F,F,F,F,F,F,F,F,F,F,F,F,F] rfl rfl (any_of HT_.out (by kernel_rfl)) (fun _ _ _ h => h) (Or.inl ⟨by rfl,?_⟩) ?_ ?_
        rotate_left
        ·intro w'
         go_simp
         with_reducible rfl
        rotate_left
        ·simp only [Act.put,setIfInBounds_toArray,set_cons_zero,set_cons_succ,i64_w,i32_w]
         rfl
        refine pure_ (i:=8) (N:=some 20) (v:=?_) (a':=?_) #[T,T,T,T,T,T,T,T,T,F,F,F,F,F,F,F,F,F,F,F,F,F,F,F,F,F,F,F,F,F,F,F,F,F,F] rfl rfl (any_of HT_.out (by kernel_rfl)) (fun _ _ _ h => h) (Or.inl ⟨by rfl,?_⟩) ?_ ?_
        rotate_left
        ·intro w'
         go_simp
         with_reducible rfl
        rotate_left
        ·simp only [Act.put,setIfInBounds_toArray,set_cons_zero,set_cons_succ,i64_w,i32_w]
         rfl
        refine pure_ (i:=9) (N:=some 21) (v:=undef) (a':=?_) #[T,T,T,T,T,T,T,T,T,T,F,F,F,F,F,F,F,F,F,F,F,F,F,F,F,F,F,F,F,F,F,F,F,F,F] rfl rfl (any_of HT_.out (by kernel_rfl)) (fun _ _ _ h => h) (Or.inr ⟨by rfl,rfl⟩) ?_ ?_
        rotate_left
        ·simp only [Act.put,setIfInBounds_toArray,set_cons_zero,set_cons_succ,i64_w,i32_w]
         rfl
        refine pure_ (i:=10) (N:=some 22) (v:=undef) (a':=?_) #[T,T,T,T,T,T,T,T,T,T,T,F,F,F,F,F,F,F,F,F,F,F,F,F,F,F,F,F,F,F,F,F,F,F,F] rfl rfl (any_of HT_.out (by kernel_rfl)) (fun _ _ _ h => h) (Or.inr ⟨by rfl,rfl⟩) ?_ ?_
        rotate_left
        ·simp only [Act.put,setIfInBounds_toArray,set_cons_zero,set_cons_succ,i64_w,i32_w]
         rfl
        refine pure_ (i:=11) (N:=some 23) (v:=undef) (a':=?_) #[T,T,T,T,T,T,T,T,T,T,T,T,F,F,F,F,F,F,F,F,F,F,F,F,F,F,F,F,F,F,F,F,F,F,F] rfl rfl (any_of HT_.out (by kernel_rfl)) (fun _ _ _ h => h) (Or.inr ⟨by rfl,rfl⟩) ?_ ?_
        rotate_left
        ·simp only [Act.put,setIfInBounds_toArray,set_cons_zero,set_cons_succ,i64_w,i32_w]
         rfl
        refine pure_ (i:=12) (N:=some 24) (v:=undef) (a':=?_) #[T,T,T,T,T,T,T,T,T,T,T,T,T,F,F,F,F,F,F,F,F,F,F,F,F,F,F,F,F,F,F,F,F,F,F] rfl rfl (any_of HT_.out (by kernel_rfl)) (fun _ _ _ h => h) (Or.inr ⟨by rfl,rfl⟩) ?_ ?_
        rotate_left
        ·simp only [Act.put,setIfInBounds_toArray,set_cons_zero,set_cons_succ,i64_w,i32_w]
         rfl
        refine pure_ (i:=13) (N:=some 25) (v:=?_) (a':=?_) #[T,T,T,T,T,T,T,T,T,T,T,T,T,T,F,F,F,F,F,F,F,F,F,F,F,F,F,F,F,F,F,F,F,F,F] rfl rfl (any_of HT_.out (by kernel_rfl)) (fun _ _ _ h => h) (Or.inl ⟨by rfl,?_⟩) ?_ ?_
        rotate_left
        ·intro w'
         go_simp
         with_reducible rfl
        rotate_left
        ·simp only [Act.put,setIfInBounds_toArray,set_cons_zero,set_cons_succ,i64_w,i32_w]
         rfl
        refine pure_ (i:=14) (N:=some 26) (v:=?_) (a':=?_) #[T,T,T,T,T,T,T,T,T,T,T,T,T,T,T,F,F,F,F,F,F,F,F,F,F,F,F,F,F,F,F,F,F,F,F] rfl rfl (any_of HT_.out (by kernel_rfl)) (fun _ _ _ h => h) (Or.inl ⟨by rfl,?_⟩) ?_ ?_
        rotate_left
        ·intro w'
         go_simp
         with_reducible rfl
        rotate_left
        ·simp only [Act.put,setIfInBounds_toArray,set_cons_zero,set_cons_succ,i64_w,i32_w]
         rfl
        refine pure_ (i:=15) (N:=some 27) (v:=undef) (a':=?_) #[T,T,T,T,T,T,T,T,T,T,T,T,T,T,T,T,F,F,F,F,F,F,F,F,F,F,F,F,F,F,F,F,F,F,F] rfl rfl (any_of HT_.out (by kernel_rfl)) (fun _ _ _ h => h) (Or.inr ⟨by rfl,rfl⟩) ?_ ?_
        rotate_left
        ·simp only [Act.put,setIfInBounds_toArray,set_cons_zero,set_cons_succ,i64_w,i32_w]
         rfl
        refine pure_ (i:=16) (N:=some 28) (v:=undef) (a':=?_) #[T,T,T,T,T,T,T,T,T,T,T,T,T,T,T,T,T,F,F,F,F,F,F,F,F,F,F,F,F,F,F,F,F,F,F] rfl rfl (any_of HT_.out (by kernel_rfl)) (fun _ _ _ h => h) (Or.inr ⟨by rfl,rfl⟩) ?_ ?_
        rotate_left
        ·simp only [Act.put,setIfInBounds_toArray,set_cons_zero,set_cons_succ,i64_w,i32_w]
         rfl
        refine pure_ (i:=17) (N:=some 29) (v:=undef) (a':=?_) #[T,T,T,T,T,T,T,T,T,T,T,T,T,T,T,T,T,T,F,F,F,F,F,F,F,F,F,F,F,F,F,F,F,F,F] rfl rfl (any_of HT_.out (by kernel_rfl)) (fun _ _ _ h => h) (Or.inr ⟨by rfl,rfl⟩) ?_ ?_
        rotate_left
        ·simp only [Act.put,setIfInBounds_toArray,set_cons_zero,set_cons_succ,i64_w,i32_w]
         rfl
        refine pure_ (i:=18) (N:=some 30) (v:=undef) (a':=?_) #[T,T,T,T,T,T,T,T,T,T,T,T,T,T,T,T,T,T,T,F,F,F,F,F,F,F,F,F,F,F,F,F,F,F,F] rfl rfl (any_of HT_.out (by kernel_rfl)) (fun _ _ _ h => h) (Or.inr ⟨by rfl,rfl⟩) ?_ ?_
        rotate_left
        ·simp only [Act.put,setIfInBounds_toArray,set_cons_zero,set_cons_succ,i64_w,i32_w]
         rfl
        refine pure_ (i:=19) (N:=some 31) (v:=?_) (a':=?_) #[T,T,T,T,T,T,T,T,T,T,T,T,T,T,T,T,T,T,T,T,F,F,F,F,F,F,F,F,F,F,F,F,F,F,F] rfl rfl (any_of HT_.out (by kernel_rfl)) (fun _ _ _ h => h) (Or.inl ⟨by rfl,?_⟩) ?_ ?_
        rotate_left
        ·intro w'
         go_simp
         with_reducible rfl
        rotate_left
        ·simp only [Act.put,setIfInBounds_toArray,set_cons_zero,set_cons_succ,i64_w,i32_w]
         rfl
        refine pure_ (i:=20) (N:=some 32) (v:=?_) (a':=?_) #[T,T,T,T,T,T,T,T,T,T,T,T,T,T,T,T,T,T,T,T,T,F,F,F,F,F,F,F,F,F,F,F,F,F,F] rfl rfl (any_of HT_.out (by kernel_rfl)) (fun _ _ _ h => h) (Or.inl ⟨by rfl,?_⟩) ?_ ?_
        rotate_left
        ·intro w'
         go_simp
         with_reducible rfl
        rotate_left
        ·simp only [Act.put,setIfInBounds_toArray,set_cons_zero,set_cons_succ,i64_w,i32_w]
         rfl
        refine pure_ (i:=21) (N:=some 33) (v:=undef) (a':=?_) #[T,T,T,T,T,T,T,T,T,T,T,T,T,T,T,T,T,T,T,T,T,T,F,F,F,F,F,F,F,F,F,F,F,F,F] rfl rfl (any_of HT_.out (by kernel_rfl)) (fun _ _ _ h => h) (Or.inr ⟨by rfl,rfl⟩) ?_ ?_
        rotate_left
        ·simp only [Act.put,setIfInBounds_toArray,set_cons_zero,set_cons_succ,i64_w,i32_w]
         rfl
        refine pure_ (i:=22) (N:=some 34) (v:=undef) (a':=?_) #[T,T,T,T,T,T,T,T,T,T,T,T,T,T,T,T,T,T,T,T,T,T,T,F,F,F,F,F,F,F,F,F,F,F,F] rfl rfl (any_of HT_.out (by kernel_rfl)) (fun _ _ _ h => h) (Or.inr ⟨by rfl,rfl⟩) ?_ ?_
        rotate_left
        ·simp only [Act.put,setIfInBounds_toArray,set_cons_zero,set_cons_succ,i64_w,i32_w]
         rfl
        refine pure_ (i:=23) (N:=some 35) (v:=undef) (a':=?_) #[T,T,T,T,T,T,T,T,T,T,T,T,T,T,T,T,T,T,T,T,T,T,T,T,F,F,F,F,F,F,F,F,F,F,F] rfl rfl (any_of HT_.out (by kernel_rfl)) (fun _ _ _ h => h) (Or.inr ⟨by rfl,rfl⟩) ?_ ?_
        rotate_left
        ·simp only [Act.put,setIfInBounds_toArray,set_cons_zero,set_cons_succ,i64_w,i32_w]
         rfl
        refine pure_ (i:=24) (N:=some 36) (v:=undef) (a':=?_) #[T,T,T,T,T,T,T,T,T,T,T,T,T,T,T,T,T,T,T,T,T,T,T,T,T,F,F,F,F,F,F,F,F,F,F] rfl rfl (any_of HT_.out (by kernel_rfl)) (fun _ _ _ h => h) (Or.inr ⟨by rfl,rfl⟩) ?_ ?_
        rotate_left
        ·simp only [Act.put,setIfInBounds_toArray,set_cons_zero,set_cons_succ,i64_w,i32_w]
         rfl
        refine pure_ (i:=25) (N:=some 37) (v:=undef) (a':=?_) #[T,T,T,T,T,T,T,T,T,T,T,T,T,T,T,T,T,T,T,T,T,T,T,T,T,T,F,F,F,F,F,F,F,F,F] rfl rfl (any_of HT_.out (by kernel_rfl)) (fun _ _ _ h => h) (Or.inr ⟨by rfl,rfl⟩) ?_ ?_
        rotate_left
        ·simp only [Act.put,setIfInBounds_toArray,set_cons_zero,set_cons_succ,i64_w,i32_w]
         rfl
        refine pure_ (i:=26) (N:=some 38) (v:=undef) (a':=?_) #[T,T,T,T,T,T,T,T,T,T,T,T,T,T,T,T,T,T,T,T,T,T,T,T,T,T,T,F,F,F,F,F,F,F,F] rfl rfl (any_of HT_.out (by kernel_rfl)) (fun _ _ _ h => h) (Or.inr ⟨by rfl,rfl⟩) ?_ ?_
        rotate_left
        ·simp only [Act.put,setIfInBounds_toArray,set_cons_zero,set_cons_succ,i64_w,i32_w]
         rfl
        refine pure_ (i:=27) (N:=some 39) (v:=undef) (a':=?_) #[T,T,T,T,T,T,T,T,T,T,T,T,T,T,T,T,T,T,T,T,T,T,T,T,T,T,T,T,F,F,F,F,F,F,F] rfl rfl (any_of HT_.out (by kernel_rfl)) (fun _ _ _ h => h) (Or.inr ⟨by rfl,rfl⟩) ?_ ?_
        rotate_left
        ·simp only [Act.put,setIfInBounds_toArray,set_cons_zero,set_cons_succ,i64_w,i32_w]
         rfl
        refine pure_ (i:=28) (N:=some 40) (v:=undef) (a':=?_) #[T,T,T,T,T,T,T,T,T,T,T,T,T,T,T,T,T,T,T,T,T,T,T,T,T,T,T,T,T,F,F,F,F,F,F] rfl rfl (any_of HT_.out (by kernel_rfl)) (fun _ _ _ h => h) (Or.inr ⟨by rfl,rfl⟩) ?_ ?_
        rotate_left
        ·simp only [Act.put,setIfInBounds_toArray,set_cons_zero,set_cons_succ,i64_w,i32_w]
         rfl
        refine pure_ (i:=29) (N:=some 41) (v:=undef) (a':=?_) #[T,T,T,T,T,T,T,T,T,T,T,T,T,T,T,T,T,T,T,T,T,T,T,T,T,T,T,T,T,T,F,F,F,F,F] rfl rfl (any_of HT_.out (by kernel_rfl)) (fun _ _ _ h => h) (Or.inr ⟨by rfl,rfl⟩) ?_ ?_
        rotate_left
        ·simp only [Act.put,setIfInBounds_toArray,set_cons_zero,set_cons_succ,i64_w,i32_w]
         rfl
        refine pure_ (i:=30) (N:=some 42) (v:=undef) (a':=?_) #[T,T,T,T,T,T,T,T,T,T,T,T,T,T,T,T,T,T,T,T,T,T,T,T,T,T,T,T,T,T,T,F,F,F,F] rfl rfl (any_of HT_.out (by kernel_rfl)) (fun _ _ _ h => h) (Or.inr ⟨by rfl,rfl⟩) ?_ ?_
        rotate_left
        ·simp only [Act.put,setIfInBounds_toArray,set_cons_zero,set_cons_succ,i64_w,i32_w]
         rfl
        refine pure_ (i:=31) (N:=some 43) (v:=undef) (a':=?_) #[T,T,T,T,T,T,T,T,T,T,T,T,T,T,T,T,T,T,T,T,T,T,T,T,T,T,T,T,T,T,T,T,F,F,F] rfl rfl (any_of HT_.out (by kernel_rfl)) (fun _ _ _ h => h) (Or.inr ⟨by rfl,rfl⟩) ?_ ?_
        rotate_left
        ·simp only [Act.put,setIfInBounds_toArray,set_cons_zero,set_cons_succ,i64_w,i32_w]
         rfl
        refine pure_ (i:=32) (N:=some 44) (v:=undef) (a':=?_) #[T,T,T,T,T,T,T,T,T,T,T,T,T,T,T,T,T,T,T,T,T,T,T,T,T,T,T,T,T,T,T,T,T,F,F] rfl rfl (any_of HT_.out (by kernel_rfl)) (fun _ _ _ h => h) (Or.inr ⟨by rfl,rfl⟩) ?_ ?_
        rotate_left
        ·simp only [Act.put,setIfInBounds_toArray,set_cons_zero,set_cons_succ,i64_w,i32_w]
         rfl
        refine pure_ (i:=33) (N:=some 45) (v:=undef) (a':=?_) #[T,T,T,T,T,T,T,T,T,T,T,T,T,T,T,T,T,T,T,T,T,T,T,T,T,T,T,T,T,T,T,T,T,T,F] rfl rfl (any_of HT_.out (by kernel_rfl)) (fun _ _ _ h => h) (Or.inr ⟨by rfl,rfl⟩) ?_ ?_
        rotate_left
        ·simp only [Act.put,setIfInBounds_toArray,set_cons_zero,set_cons_succ,i64_w,i32_w]
         rfl
        refine pure_ (i:=34) (N:=some 46) (v:=?_) (a':=?_) #[T,T,T,T,T,T,T,T,T,T,T,T,T,T,T,T,T,T,T,T,T,T,T,T,T,T,T,T,T,T,T,T,T,T,T] rfl rfl (any_of HT_.out (by kernel_rfl)) (fun _ _ _ h => h) (Or.inl ⟨by rfl,?_⟩) ?_ ?_
        rotate_left
        ·intro w'
         go_simp
         with_reducible rfl
        rotate_left
        ·simp only [Act.put,setIfInBounds_toArray,set_cons_zero,set_cons_succ,i64_w,i32_w]
         rfl
        refine done_ (done_of HT_.out (by kernel_rfl)) ?_
        try go_wp2
        go_ret
        exact ⟨by first | rfl | (simp only [i64_w,i32_w] <;> rfl) | (simp [errW_none,errW_some] <;> rfl) | (simp [*,errW_none,errW_some] <;> rfl),by repeat (first | (with_reducible first | exact HB.out | apply below_alloc | apply pw_below_drewN | apply below_drew1 | refine below_set ?_ GE250.out) | exact HB.out)⟩
     ·rw [if_neg c4] at H
      exact absurd H (by simp)
    ·rw [if_neg c3] at H
     exact absurd H (by simp)
   ·rw [if_neg c2] at H
    have c2b0 : decide (x7_1 < (l0.length : Int)) = false := decide_eq_false c2
    clear c2
    obtain rfl := Option.some.inj H
    go_wp2
    go_ret
    exact ⟨by first | rfl | (simp only [i64_w,i32_w] <;> rfl) | (simp [errW_none,errW_some] <;> rfl) | (simp [*,errW_none,errW_some] <;> rfl),by repeat (first | (with_reducible first | exact HB.out | apply below_alloc | apply pw_below_drewN | apply below_drew1) | exact HB.out)⟩

end Go.Proofs.YtbdhpmamlibmhaaDoor.XFnExactReadBuckets
