-- Printed by this session's own program wip/tools/xprint.py, which widens the kit's print. Not trusted: Lean checks it.
import Derived.Test.YtfondhlknkhmmaaDoorXFnExactExpiredEntryx0
namespace Go.Proofs.YtfondhlknkhmmaaDoor.XFnExactExpiredEntry
open Go.RowKit Go.Proofs.YtfondhlknkhmmaaDoorW.PrintWords Go.Proofs.YtfondhlknkhmmaaDoorW.PrintLast Go.Proofs.YtfondhlknkhmmaaDoorW.PrintMore
attribute [local go_sem] max2_int min2_int max_two min_two max_three min_three max_four min_four   -- for this text's walks alone
set_option linter.unusedVariables false
set_option linter.unusedSimpArgs false

/-! ### impl_State_of: function 30 -/
def impl_State_of.l0 : Nat → Int → List (S39) → List (S39) → Int → Int → Option ((List (S39)))
 | 0,_,_,_,_,_ => none
 | k + 1,x1,x5,x10,x11,x12 => if x12 < x11 then (if 0 ≤ x12 then (if x12 < (x10.length : Int) then (if ((rd_T39 x10 x12).f0) = x1 then (if x5.length < 3518437208883 then (impl_State_of.l0 k x1 (x5 ++ [(⟨(rd_T39 x10 x12).f0,(rd_T39 x10 x12).f1,(rd_T39 x10 x12).f2,(rd_T39 x10 x12).f3⟩ : S39)]) x10 x11 (wrap64 (x12 + 1))) else (none)) else (impl_State_of.l0 k x1 x5 x10 x11 (wrap64 (x12 + 1)))) else (none)) else (none)) else (some x5)
def impl_State_of.f (k : Nat) (a0_0 : Int) (a0_1 : Int) (l0_2 : List (S39)) (l0_3 : List (S55)) (a0_4 : Int) (a0_5 : Int) (a0_6 : Int) (a0_7 : Int) (a0_8 : Int) (a0_9 : Int) (a1 : Int) : Option ((List (S39))) := impl_State_of.l0 k a1 (([] : List (S39))) l0_2 (l0_2.length : Int) 0
theorem impl_State_of.mono_l : ∀ k,(∀ y0 y1 y2 y3 y4,LeO (impl_State_of.l0 k y0 y1 y2 y3 y4) (impl_State_of.l0 (k + 1) y0 y1 y2 y3 y4))
 | 0 => fun _ _ _ _ _ r h => by simp [impl_State_of.l0] at h
 | k + 1 => by
  have ih0 := impl_State_of.mono_l k
  ·intro y0 y1 y2 y3 y4
   unfold impl_State_of.l0
   repeat' first
   | (with_reducible exact ih0 _ _ _ _ _)
   | (with_reducible exact LeO.refl _)
   | (with_reducible exact LeO.none _)
   | (with_reducible refine LeO.ite ?_ ?_)
   | (with_reducible refine LeO.bind ?_ (fun _ => ?_))
   | exact ih0 _ _ _ _ _
   | exact LeO.none _
   | refine LeO.ite ?_ ?_
   | refine LeO.bind ?_ (fun _ => ?_)
theorem impl_State_of.mono : ∀ a0 a1 a2 a3 a4 a5 a6 a7 a8 a9 a10 k,LeO (impl_State_of.f k a0 a1 a2 a3 a4 a5 a6 a7 a8 a9 a10) (impl_State_of.f (k + 1) a0 a1 a2 a3 a4 a5 a6 a7 a8 a9 a10) := by
 intro a0 a1 a2 a3 a4 a5 a6 a7 a8 a9 a10 k
 have ih0 := impl_State_of.mono_l k
 unfold impl_State_of.f
 repeat' first
   | (with_reducible exact ih0 _ _ _ _ _)
   | (with_reducible exact LeO.refl _)
   | (with_reducible exact LeO.none _)
   | (with_reducible refine LeO.ite ?_ ?_)
   | (with_reducible refine LeO.bind ?_ (fun _ => ?_))
   | exact ih0 _ _ _ _ _
   | exact LeO.none _
   | refine LeO.ite ?_ ?_
   | refine LeO.bind ?_ (fun _ => ?_)
set_option maxHeartbeats 8000000 in
set_option maxRecDepth 100000 in
theorem impl_State_of.calls (k : Nat) (a0_0 : Int) (a0_1 : Int) (A0_2 : Option Addr) (c0_2 : Nat) (l0_2 : List (S39)) (A0_3 : Option Addr) (c0_3 : Nat) (l0_3 : List (S55)) (a0_4 : Int) (a0_5 : Int) (a0_6 : Int) (a0_7 : Int) (a0_8 : Int) (a0_9 : Int) (a1 : Int) (r : List (S39)) (w : World) (hr0_2 : Kd.C k39 w A0_2 l0_2.length l0_2) (hc0_2 : l0_2.length ≤ c0_2) (hr0_3 : Kd.C k55 w A0_3 l0_3.length l0_3) (hc0_3 : l0_3.length ≤ c0_3) (h : impl_State_of.f k a0_0 a0_1 l0_2 l0_3 a0_4 a0_5 a0_6 a0_7 a0_8 a0_9 a1 = some r) :
  Calls Tryd.prog 30 #[.agg #[.int .i64 a0_0,.int .i64 a0_1,.slice A0_2 l0_2.length c0_2,.slice A0_3 l0_3.length c0_3,.int .i64 a0_4,.int .i64 a0_5,.int .i64 a0_6,.int .i64 a0_7,.int .i64 a0_8,.int .i64 a0_9],.int .i64 a1] w fun e w' => ∃ v0_ : Value,e = .returned (v0_) ∧ Kd.R k39 39 w' w.heap.size (fun _ => True) v0_ r ∧ Below w.heap.size w w' := by
 have hu32 := Tryd.underlying32
 have hu39 := Tryd.underlying39
 have HR0_2 := Aside0.mk hr0_2
 have HC0_2 := Aside0.mk hc0_2
 clear hr0_2 hc0_2
 have HR0_3 := Aside0.mk hr0_3
 have HC0_3 := Aside0.mk hc0_3
 clear hr0_3 hc0_3
 have HB := Aside0.mk (Below.refl w.heap.size w)
 have H : (impl_State_of.l0 k a1 (([] : List (S39))) l0_2 (l0_2.length : Int) 0) = some r := h
 clear h
 obtain ⟨y297,hy297⟩ : ∃ y_ : List (S39),y_ = (([] : List (S39))) := ⟨_,rfl⟩
 replace H : (impl_State_of.l0 k a1 y297 l0_2 (l0_2.length : Int) 0) = some r := by first | (rw [hy297]; with_reducible exact H) | (have H2_ := (Option.bind_some _ _).symm.trans H; rw [hy297]; with_reducible exact H2_) | (have H2_ := (Option.bind_some _ _).symm.trans H; with_reducible exact H2_) | with_reducible exact H | (rw [hy297]; exact H) | exact H
 have Ny297 := Aside0.mk hy297
 clear hy297
 have H' := Aside0.mk H
 clear H
 go_enter Tryd.func30,Tryd.ntmps30
 go_wp2_with (first | ((with_reducible refine gate_dst (N:=2) rfl ?_); refine box_event ?hg (N:=2) ?hd (cs := #[.int .i64 a0_0,.int .i64 a0_1,.slice A0_2 l0_2.length c0_2,.slice A0_3 l0_3.length c0_3,.int .i64 a0_4,.int .i64 a0_5,.int .i64 a0_6,.int .i64 a0_7,.int .i64 a0_8,.int .i64 a0_9]) (t:=32) ?hr ?_; (case hd => rfl); (case hg => rfl); (case hr => first | (go_simp; done) | (go_simp; rfl)); intro gb296 hg w3 hbox hb; have n0_ := Aside0.mk (below_step bA hb); have n1_ := Aside0.mk (hbox); have n2_ := Aside0.mk ((gw hg : w.heap.size ≤ gb296)); have n3_ := Aside0.mk ((gw hg : w.heap.size ≤ gb296)); clear HB; have HB := n0_; have BK296 := n1_; have GW296 := n2_; have GE296 := n3_; clear n0_ n1_ n2_ n3_; clear hb hbox hg) | ((with_reducible refine gate_dst (N:=8) rfl ?_); refine Kd.R_lit k39 _ 39 ?hg (N:=8) ?hd (xs := ([] : List (S39))) (inner := []) (ok := fun _ => True) (okp := fun _ => True) ?hr ?hp (fun _ hk => hk) trivial (Below.refl _ _) (Nat.le_refl _) (by simp) ?_; (case hd => rfl); (case hg => rfl); (case hr => first | (go_simp; done) | (go_simp; rfl)); (case hp => exact (Reps.none _ _)); intro v298 w4 ho5 hb hg_ hnew_; clear hg_ hnew_; (first | rw [← Ny297.out] at ho5 | (simp only [Int.reduceToNat] at ho5; rw [← Ny297.out] at ho5)); have n0_ := Aside0.mk (Kd.R_lower ho5 (below_size bA)); have n1_ := Aside0.mk (blk_below (g:=gb296) (o:=.cells #[.int .i64 a0_0,.int .i64 a0_1,.slice A0_2 l0_2.length c0_2,.slice A0_3 l0_3.length c0_3,.int .i64 a0_4,.int .i64 a0_5,.int .i64 a0_6,.int .i64 a0_7,.int .i64 a0_8,.int .i64 a0_9] 32 (0,0)) (kA BK296.out) hb); have n2_ := Aside0.mk (below_step bA hb); clear BK296; clear HB; have HO299 := n0_; have BK296 := n1_; have HB := n2_; clear n0_ n1_ n2_; clear hb ho5; obtain ⟨hcz6_0,hcz6_1,hcz6_2,hcz6_3,hcz6_4,hcz6_5,hcz6_6,hcz6_7,hcz6_8,hcz6_9⟩ := cl10 BK296.out; obtain ⟨hfz6_0,hfz6_1,hfz6_2,hfz6_3,hfz6_4,hfz6_5,hfz6_6,hfz6_7,hfz6_8,hfz6_9⟩ := fz10 BK296.out))
 go_loopg [5,12] k (fun kq v5 v12 w' => ∃ (x5_1 : List (S39)) (x12_1 : Int),v12 = .int .i64 x12_1 ∧ Aside0 (impl_State_of.l0 kq a1 x5_1 l0_2 (l0_2.length : Int) x12_1 = some r) ∧ Aside0 (kq ≤ k) ∧ Aside0 (Kd.R k39 39 w' w.heap.size (fun _ => True) v5 x5_1) ∧ Aside0 (w'.heap[gb296]? = some (.cells #[.int .i64 a0_0,.int .i64 a0_1,(.slice A0_2 l0_2.length c0_2),(.slice A0_3 l0_3.length c0_3),.int .i64 a0_4,.int .i64 a0_5,.int .i64 a0_6,.int .i64 a0_7,.int .i64 a0_8,.int .i64 a0_9] 32 (0,0))) ∧ Aside0 (Below w.heap.size w w'))
 case atStart => exact ⟨(y297),(0),(by first | rfl | (simp; done) | (simp [*]; done)),H',⟨Nat.le_refl _⟩,⟨rA HO299.out⟩,⟨kA BK296.out⟩,⟨bA⟩⟩
 case round =>
  clear H'
  try clear p2
  try clear c3
  try clear hcz6_0
  try clear hcz6_1
  try clear hcz6_2
  try clear hcz6_3
  try clear hcz6_4
  try clear hcz6_5
  try clear hcz6_6
  try clear hcz6_7
  try clear hcz6_8
  try clear hcz6_9
  try clear hfz6_0
  try clear hfz6_1
  try clear hfz6_2
  try clear hfz6_3
  try clear hfz6_4
  try clear hfz6_5
  try clear hfz6_6
  try clear hfz6_7
  try clear hfz6_8
  try clear hfz6_9
  obtain ⟨x5_1,x12_1,rfl,HA,HK1,HO_5,BK296,HB⟩ := hrel
  cases gk with
  | zero => exact absurd HA.out (by simp [impl_State_of.l0])
  | succ k1 =>
   have H := HA.out
   clear HA
   simp only [impl_State_of.l0] at H
   by_cases c7 : x12_1 < (l0_2.length : Int)
   ·rw [if_pos c7] at H
    have c7b0 : decide (x12_1 < (l0_2.length : Int)) = true := decide_eq_true c7
    clear c7
    by_cases c8 : 0 ≤ x12_1
    ·rw [if_pos c8] at H
     have c8b0 : decide (0 ≤ x12_1) = true := decide_eq_true c8
     clear c8
     by_cases c9 : x12_1 < (l0_2.length : Int)
     ·rw [if_pos c9] at H
      have c9b0 : decide (x12_1 < (l0_2.length : Int)) = true := decide_eq_true c9
      clear c9
      by_cases c10 : ((rd_T39 l0_2 x12_1).f0) = a1
      ·rw [if_pos c10] at H
       have c10b0 : (((rd_T39 l0_2 x12_1).f0) == a1) = true := beq_iff_eq.mpr c10
       have c10b1 : (((rd_T39 l0_2 x12_1).f0) != a1) = false := bne_eq_false_iff_eq.mpr c10
       clear c10
       by_cases c11 : x5_1.length < 3518437208883
       ·rw [if_pos c11] at H
        have LMc11 := Aside0.mk c11
        clear c11
        obtain ⟨y302,hy302⟩ : ∃ y_ : List (S39),y_ = (x5_1 ++ [(⟨(rd_T39 l0_2 x12_1).f0,(rd_T39 l0_2 x12_1).f1,(rd_T39 l0_2 x12_1).f2,(rd_T39 l0_2 x12_1).f3⟩ : S39)]) := ⟨_,rfl⟩
        replace H : (impl_State_of.l0 k1 a1 y302 l0_2 (l0_2.length : Int) (wrap64 (x12_1 + 1))) = some r := by first | (rw [hy302]; with_reducible exact H) | (have H2_ := (Option.bind_some _ _).symm.trans H; rw [hy302]; with_reducible exact H2_) | (have H2_ := (Option.bind_some _ _).symm.trans H; with_reducible exact H2_) | with_reducible exact H | (rw [hy302]; exact H) | exact H
        have Ny302 := Aside0.mk hy302
        clear hy302
        have H' := Aside0.mk H
        clear H
        have p300 : 0 ≤ (x12_1 : Int) := od
        have q300 : x12_1 < (l0_2.length : Int) := od
        obtain ⟨ad300,e300,hx300_0,hx300_1,hx300_2,hx300_3⟩ := at_T39 HR0_2.out x12_1 p300 q300
        cases e300
        replace hx300_0 := cb HB.out hx300_0
        replace hx300_1 := cb HB.out hx300_1
        replace hx300_2 := cb HB.out hx300_2
        replace hx300_3 := cb HB.out hx300_3
        replace p300 := eq_true p300
        replace q300 := eq_true q300
        go_wp2_with (first | ((with_reducible refine gate_dst (N:=7) rfl ?_); refine box_event ?hg (N:=7) ?hd (cs := #[.int .i64 0,.int .i64 0,.int .i64 0,.string (⟨#[]⟩ : ByteArray)]) (t:=39) ?hr ?_; (case hd => rfl); (case hg => rfl); (case hr => first | (go_simp; done) | (go_simp; rfl)); intro gb301 hg w12 hbox hb; have n0_ := Aside0.mk (Kd.R_below (Kd.R_elderB (rA HO_5.out) gb301 (Nat.le_of_eq hg.symm)) hb); have n1_ := Aside0.mk (blk_below (g:=gb296) (o:=.cells #[.int .i64 a0_0,.int .i64 a0_1,.slice (some ad300) l0_2.length c0_2,.slice A0_3 l0_3.length c0_3,.int .i64 a0_4,.int .i64 a0_5,.int .i64 a0_6,.int .i64 a0_7,.int .i64 a0_8,.int .i64 a0_9] 32 (0,0)) (kA BK296.out) hb); have n2_ := Aside0.mk (below_step bA hb); have n3_ := Aside0.mk (hbox); have n4_ := Aside0.mk ((gw hg : w.heap.size ≤ gb301)); have n5_ := Aside0.mk ((gw hg : w.heap.size ≤ gb301)); have n6_ := Aside0.mk ((by rw [hg]; exact Nat.ne_of_lt (blk_lt (g:=gb296) (o:=.cells #[.int .i64 a0_0,.int .i64 a0_1,.slice (some ad300) l0_2.length c0_2,.slice A0_3 l0_3.length c0_3,.int .i64 a0_4,.int .i64 a0_5,.int .i64 a0_6,.int .i64 a0_7,.int .i64 a0_8,.int .i64 a0_9] 32 (0,0)) (kA BK296.out)) : gb296 ≠ gb301)); have n7_ := Aside0.mk ((by rw [hg]; exact Nat.ne_of_gt (blk_lt (g:=gb296) (o:=.cells #[.int .i64 a0_0,.int .i64 a0_1,.slice (some ad300) l0_2.length c0_2,.slice A0_3 l0_3.length c0_3,.int .i64 a0_4,.int .i64 a0_5,.int .i64 a0_6,.int .i64 a0_7,.int .i64 a0_8,.int .i64 a0_9] 32 (0,0)) (kA BK296.out)) : gb301 ≠ gb296)); clear HO_5; clear BK296; clear HB; have HO_5 := n0_; have BK296 := n1_; have HB := n2_; have BK301 := n3_; have GW301 := n4_; have GE301 := n5_; have NB296_301 := n6_; have NB301_296 := n7_; clear n0_ n1_ n2_ n3_ n4_ n5_ n6_ n7_; clear hb hbox hg; have hnb13 := NB301_296.out; have hnc13 := NB296_301.out; obtain ⟨hcz14_0,hcz14_1,hcz14_2,hcz14_3⟩ := cl4 BK301.out; obtain ⟨hfz14_0,hfz14_1,hfz14_2,hfz14_3⟩ := fz4 BK301.out) | ((with_reducible refine gate_builtin (b:=.append) (xs := #[.tmp 20,.tmp 22]) rfl ?_); at_builtin; refine Kd.R_append k39 (w0 := w) w.heap.size rfl (.tmp 20) (.tmp 22) 29 39 (.agg #[(.int .i64 0),(.int .i64 0),(.int .i64 0),(.string ⟨#[]⟩)]) 40 rfl Tryd.underlying29 info39 rfl (by decide) (by omega) u5 x5_1 (⟨(rd_T39 l0_2 x12_1).f0,(rd_T39 l0_2 x12_1).f1,(rd_T39 l0_2 x12_1).f2,(rd_T39 l0_2 x12_1).f3⟩ : S39) [.int .i64 ((rd_T39 l0_2 x12_1).f0),.int .i64 ((rd_T39 l0_2 x12_1).f1),.int .i64 ((rd_T39 l0_2 x12_1).f2),.string ((rd_T39 l0_2 x12_1).f3)] (fun k_ => k_ ≠ gb301) (fun _ => False) rfl (by first | (go_simp; done) | (go_simp; rfl)) ?aP (fun _ hk => hk.elim) ?aF ?aO ?aB ?aS ?aL ?_; (case aP => exact k39_mkM _ _ _ (⟨(rd_T39 l0_2 x12_1).f0,(rd_T39 l0_2 x12_1).f1,(rd_T39 l0_2 x12_1).f2,(rd_T39 l0_2 x12_1).f3⟩ : S39)); (case aB => exact bA); (case aF => exact (fun k_ hk => Kd.freshB (g:=gb301) (o:=.cells #[.int .i64 ((rd_T39 l0_2 x12_1).f0),.int .i64 ((rd_T39 l0_2 x12_1).f1),.int .i64 ((rd_T39 l0_2 x12_1).f2),.string ((rd_T39 l0_2 x12_1).f3)] 39 (0,0)) (by (with_reducible repeat (first | refine blk_drewN ?_ _ | refine blk_drew ?_ | refine blk_alloc ?_ _)); refine blk_put (cs := #[.int .i64 ((rd_T39 l0_2 x12_1).f0),.int .i64 ((rd_T39 l0_2 x12_1).f1),.int .i64 ((rd_T39 l0_2 x12_1).f2),.string (⟨#[]⟩ : ByteArray)]) ?_ 3 _ rfl; (with_reducible repeat (first | refine blk_drewN ?_ _ | refine blk_drew ?_ | refine blk_alloc ?_ _)); refine blk_put (cs := #[.int .i64 ((rd_T39 l0_2 x12_1).f0),.int .i64 ((rd_T39 l0_2 x12_1).f1),.int .i64 0,.string (⟨#[]⟩ : ByteArray)]) ?_ 2 _ rfl; (with_reducible repeat (first | refine blk_drewN ?_ _ | refine blk_drew ?_ | refine blk_alloc ?_ _)); refine blk_put (cs := #[.int .i64 ((rd_T39 l0_2 x12_1).f0),.int .i64 0,.int .i64 0,.string (⟨#[]⟩ : ByteArray)]) ?_ 1 _ rfl; (with_reducible repeat (first | refine blk_drewN ?_ _ | refine blk_drew ?_ | refine blk_alloc ?_ _)); refine blk_put (cs := #[.int .i64 0,.int .i64 0,.int .i64 0,.string (⟨#[]⟩ : ByteArray)]) ?_ 0 _ rfl; (with_reducible repeat (first | refine blk_drewN ?_ _ | refine blk_drew ?_ | refine blk_alloc ?_ _)); exact BK301.out) k_ hk)); (case aO => exact (by (with_reducible repeat (first | apply Kd.R_alloc | apply Kd.R_drewN | apply Kd.R_drew)); exact Kd.R_mono (Kd.R_far (p:=⟨gb301,3,none⟩) (Kd.R_far (p:=⟨gb301,2,none⟩) (Kd.R_far (p:=⟨gb301,1,none⟩) (Kd.R_far (p:=⟨gb301,0,none⟩) (Kd.R_mono HO_5.out (fun k_ hk => (⟨hk,hk.2⟩ : _ ∧ k_ ≠ gb301))) (fun _ hk => hk.2) (.int .i64 ((rd_T39 l0_2 x12_1).f0))) (fun _ hk => hk.2) (.int .i64 ((rd_T39 l0_2 x12_1).f1))) (fun _ hk => hk.2) (.int .i64 ((rd_T39 l0_2 x12_1).f2))) (fun _ hk => hk.2) (.string ((rd_T39 l0_2 x12_1).f3))) (fun _ hk => hk.1.2))); (case aS => exact (below_size bA)); (case aL => have := LMc11.out; omega); intro v303 w15 ho hb hg hat; rw [← Ny302.out] at ho; have n0_ := Aside0.mk (blk_grown (g:=gb296) (o:=.cells #[.int .i64 a0_0,.int .i64 a0_1,.slice (some ad300) l0_2.length c0_2,.slice A0_3 l0_3.length c0_3,.int .i64 a0_4,.int .i64 a0_5,.int .i64 a0_6,.int .i64 a0_7,.int .i64 a0_8,.int .i64 a0_9] 32 (0,0)) (kF BK296.out) hg (Kd.R_ne HO_5.out BK296.out (by decide))); have n1_ := Aside0.mk (blk_grown (g:=gb301) (o:=.cells #[.int .i64 ((rd_T39 l0_2 x12_1).f0),.int .i64 ((rd_T39 l0_2 x12_1).f1),.int .i64 ((rd_T39 l0_2 x12_1).f2),.string ((rd_T39 l0_2 x12_1).f3)] 39 (0,0)) (by (with_reducible repeat (first | refine blk_drewN ?_ _ | refine blk_drew ?_ | refine blk_alloc ?_ _)); refine blk_put (cs := #[.int .i64 ((rd_T39 l0_2 x12_1).f0),.int .i64 ((rd_T39 l0_2 x12_1).f1),.int .i64 ((rd_T39 l0_2 x12_1).f2),.string (⟨#[]⟩ : ByteArray)]) ?_ 3 _ rfl; (with_reducible repeat (first | refine blk_drewN ?_ _ | refine blk_drew ?_ | refine blk_alloc ?_ _)); refine blk_put (cs := #[.int .i64 ((rd_T39 l0_2 x12_1).f0),.int .i64 ((rd_T39 l0_2 x12_1).f1),.int .i64 0,.string (⟨#[]⟩ : ByteArray)]) ?_ 2 _ rfl; (with_reducible repeat (first | refine blk_drewN ?_ _ | refine blk_drew ?_ | refine blk_alloc ?_ _)); refine blk_put (cs := #[.int .i64 ((rd_T39 l0_2 x12_1).f0),.int .i64 0,.int .i64 0,.string (⟨#[]⟩ : ByteArray)]) ?_ 1 _ rfl; (with_reducible repeat (first | refine blk_drewN ?_ _ | refine blk_drew ?_ | refine blk_alloc ?_ _)); refine blk_put (cs := #[.int .i64 0,.int .i64 0,.int .i64 0,.string (⟨#[]⟩ : ByteArray)]) ?_ 0 _ rfl; (with_reducible repeat (first | refine blk_drewN ?_ _ | refine blk_drew ?_ | refine blk_alloc ?_ _)); exact BK301.out) hg (Kd.R_away HO_5.out (fun _ hk => hk.2))); have n2_ := Aside0.mk (hb); have n3_ := Aside0.mk (ho); clear BK296; clear BK301; clear HB; clear HO_5; have BK296 := n0_; have BK301 := n1_; have HB := n2_; have HO304 := n3_; clear n0_ n1_ n2_ n3_; clear ho hb hg hat))
        go_roundg k1
        case measure => have := HK1.out; omega
        case rel => exact ⟨(y302),(wrap64 (x12_1 + 1)),(by first | rfl | (simp; done) | (simp [*]; done)),H',⟨by have := HK1.out; omega⟩,⟨by (with_reducible repeat (first | apply Kd.R_alloc | apply Kd.R_drewN | apply Kd.R_drew)); exact Kd.R_mono HO304.out (fun _ hk => trivial)⟩,⟨kA BK296.out⟩,⟨bA⟩⟩
       ·rw [if_neg c11] at H
        exact absurd H (by simp)
      ·rw [if_neg c10] at H
       have c10b0 : (((rd_T39 l0_2 x12_1).f0) == a1) = false := beq_eq_false_iff_ne.mpr c10
       have c10b1 : (((rd_T39 l0_2 x12_1).f0) != a1) = true := bne_iff_ne.mpr c10
       have H' := Aside0.mk H
       clear H
       have p300 : 0 ≤ (x12_1 : Int) := od
       have q300 : x12_1 < (l0_2.length : Int) := od
       obtain ⟨ad300,e300,hx300_0,hx300_1,hx300_2,hx300_3⟩ := at_T39 HR0_2.out x12_1 p300 q300
       cases e300
       replace hx300_0 := cb HB.out hx300_0
       replace hx300_1 := cb HB.out hx300_1
       replace hx300_2 := cb HB.out hx300_2
       replace hx300_3 := cb HB.out hx300_3
       replace p300 := eq_true p300
       replace q300 := eq_true q300
       go_wp2_with (first | ((with_reducible refine gate_dst (N:=7) rfl ?_); refine box_event ?hg (N:=7) ?hd (cs := #[.int .i64 0,.int .i64 0,.int .i64 0,.string (⟨#[]⟩ : ByteArray)]) (t:=39) ?hr ?_; (case hd => rfl); (case hg => rfl); (case hr => first | (go_simp; done) | (go_simp; rfl)); intro gb301 hg w16 hbox hb; have n0_ := Aside0.mk (Kd.R_below (Kd.R_elderB (rA HO_5.out) gb301 (Nat.le_of_eq hg.symm)) hb); have n1_ := Aside0.mk (blk_below (g:=gb296) (o:=.cells #[.int .i64 a0_0,.int .i64 a0_1,.slice (some ad300) l0_2.length c0_2,.slice A0_3 l0_3.length c0_3,.int .i64 a0_4,.int .i64 a0_5,.int .i64 a0_6,.int .i64 a0_7,.int .i64 a0_8,.int .i64 a0_9] 32 (0,0)) (kA BK296.out) hb); have n2_ := Aside0.mk (below_step bA hb); have n3_ := Aside0.mk (hbox); have n4_ := Aside0.mk ((gw hg : w.heap.size ≤ gb301)); have n5_ := Aside0.mk ((gw hg : w.heap.size ≤ gb301)); have n6_ := Aside0.mk ((by rw [hg]; exact Nat.ne_of_lt (blk_lt (g:=gb296) (o:=.cells #[.int .i64 a0_0,.int .i64 a0_1,.slice (some ad300) l0_2.length c0_2,.slice A0_3 l0_3.length c0_3,.int .i64 a0_4,.int .i64 a0_5,.int .i64 a0_6,.int .i64 a0_7,.int .i64 a0_8,.int .i64 a0_9] 32 (0,0)) (kA BK296.out)) : gb296 ≠ gb301)); have n7_ := Aside0.mk ((by rw [hg]; exact Nat.ne_of_gt (blk_lt (g:=gb296) (o:=.cells #[.int .i64 a0_0,.int .i64 a0_1,.slice (some ad300) l0_2.length c0_2,.slice A0_3 l0_3.length c0_3,.int .i64 a0_4,.int .i64 a0_5,.int .i64 a0_6,.int .i64 a0_7,.int .i64 a0_8,.int .i64 a0_9] 32 (0,0)) (kA BK296.out)) : gb301 ≠ gb296)); clear HO_5; clear BK296; clear HB; have HO_5 := n0_; have BK296 := n1_; have HB := n2_; have BK301 := n3_; have GW301 := n4_; have GE301 := n5_; have NB296_301 := n6_; have NB301_296 := n7_; clear n0_ n1_ n2_ n3_ n4_ n5_ n6_ n7_; clear hb hbox hg; have hnb17 := NB301_296.out; have hnc17 := NB296_301.out; obtain ⟨hcz18_0,hcz18_1,hcz18_2,hcz18_3⟩ := cl4 BK301.out; obtain ⟨hfz18_0,hfz18_1,hfz18_2,hfz18_3⟩ := fz4 BK301.out))
       go_roundg k1
       case measure => have := HK1.out; omega
       case rel => exact ⟨(x5_1),(wrap64 (x12_1 + 1)),(by first | rfl | (simp; done) | (simp [*]; done)),H',⟨by have := HK1.out; omega⟩,⟨by (with_reducible repeat (first | apply Kd.R_alloc | apply Kd.R_drewN | apply Kd.R_drew)); exact Kd.R_mono (Kd.R_far (p:=⟨gb301,3,none⟩) (Kd.R_far (p:=⟨gb301,2,none⟩) (Kd.R_far (p:=⟨gb301,1,none⟩) (Kd.R_far (p:=⟨gb301,0,none⟩) (Kd.R_mono HO_5.out (fun k_ hk => (⟨hk,hk.2⟩ : _ ∧ k_ ≠ gb301))) (fun _ hk => hk.2) (.int .i64 ((rd_T39 l0_2 x12_1).f0))) (fun _ hk => hk.2) (.int .i64 ((rd_T39 l0_2 x12_1).f1))) (fun _ hk => hk.2) (.int .i64 ((rd_T39 l0_2 x12_1).f2))) (fun _ hk => hk.2) (.string ((rd_T39 l0_2 x12_1).f3))) (fun _ hk => trivial)⟩,⟨kF BK296.out⟩,⟨bA⟩⟩
     ·rw [if_neg c9] at H
      exact absurd H (by simp)
    ·rw [if_neg c8] at H
     exact absurd H (by simp)
   ·rw [if_neg c7] at H
    have c7b0 : decide (x12_1 < (l0_2.length : Int)) = false := decide_eq_false c7
    clear c7
    obtain rfl := Option.some.inj H
    go_wp2
    go_ret
    exact ⟨_,by first | rfl | (simp only [i64_w,i32_w] <;> rfl) | (simp [errW_none,errW_some] <;> rfl) | (simp [*,errW_none,errW_some] <;> rfl),rA HO_5.out,bA⟩

end Go.Proofs.YtfondhlknkhmmaaDoor.XFnExactExpiredEntry
