-- Printed by this session's own program wip/tools/xprint.py, which widens the kit's print. Not trusted: Lean checks it.
import Derived.Test.YtfondhlknkhmmaaDoorXFnExactExpiredEntryx0
import Derived.Test.YtfondhlknkhmmaaDoorXFnExactExpiredEntryx7
namespace Go.Proofs.YtfondhlknkhmmaaDoor.XFnExactExpiredEntry
open List (setIfInBounds_toArray set_cons_zero set_cons_succ)
open Go.RowKit Go.Proofs.YtfondhlknkhmmaaDoorW.PrintWords Go.Proofs.YtfondhlknkhmmaaDoorW.PrintLast Go.Proofs.YtfondhlknkhmmaaDoorW.PrintMore
attribute [local go_sem] max2_int min2_int max_two min_two max_three min_three max_four min_four   -- for this text's walks alone
set_option linter.unusedVariables false
set_option linter.unusedSimpArgs false

/-! ### spec_l07Expired: function 37 -/
def spec_l07Expired.l0 : Nat → Int → Int → Int → Int → List (S39) → List (S55) → Int → Int → Int → Int → Int → Int → Option (Int × Int × Int × ByteArray × Bool)
 | 0,_,_,_,_,_,_,_,_,_,_,_,_ => none
 | k + 1,x1,x6,x260000,x260001,x260002,x260003,x260004,x260005,x260006,x260007,x260008,x260009 => if x6 < 3 then ((spec_l06First.f k x260000 x260001 x260002 x260003 x260004 x260005 x260006 x260007 x260008 x260009 x6).bind fun t261 => (if t261 < 0 then (spec_l07Expired.l0 k x1 (wrap64 (x6 + 1)) x260000 x260001 x260002 x260003 x260004 x260005 x260006 x260007 x260008 x260009) else (if 0 ≤ t261 then (if t261 < (x260002.length : Int) then ((spec_l04Keep.f x6).bind fun t264 => (if (wrap64 (((rd_T39 x260002 t261).f2) + t264)) ≤ x1 then (if x6 = 2 then (some ((rd_T39 x260002 t261).f0,(rd_T39 x260002 t261).f1,(rd_T39 x260002 t261).f2,(rd_T39 x260002 t261).f3,true)) else (if 0 ≤ (wrap64 (x6 + 1)) then (if (wrap64 (x6 + 1)) < 3 then (if ((rd_T39 x260002 t261).f2) ≤ (at3 (wrap64 (x6 + 1)) x260007 x260008 x260009) then (some ((rd_T39 x260002 t261).f0,(rd_T39 x260002 t261).f1,(rd_T39 x260002 t261).f2,(rd_T39 x260002 t261).f3,true)) else (spec_l07Expired.l0 k x1 (wrap64 (x6 + 1)) x260000 x260001 x260002 x260003 x260004 x260005 x260006 x260007 x260008 x260009)) else (none)) else (none))) else (spec_l07Expired.l0 k x1 (wrap64 (x6 + 1)) x260000 x260001 x260002 x260003 x260004 x260005 x260006 x260007 x260008 x260009))) else (none)) else (none)))) else (some (0,0,0,(⟨#[]⟩ : ByteArray),false))
def spec_l07Expired.f (k : Nat) (a0_0 : Int) (a0_1 : Int) (l0_2 : List (S39)) (l0_3 : List (S55)) (a0_4 : Int) (a0_5 : Int) (a0_6 : Int) (a0_7 : Int) (a0_8 : Int) (a0_9 : Int) (a1 : Int) : Option (Int × Int × Int × ByteArray × Bool) := spec_l07Expired.l0 k a1 0 a0_0 a0_1 l0_2 l0_3 a0_4 a0_5 a0_6 a0_7 a0_8 a0_9
theorem spec_l07Expired.mono_l : ∀ k,(∀ y0 y1 y2 y3 y4 y5 y6 y7 y8 y9 y10 y11,LeO (spec_l07Expired.l0 k y0 y1 y2 y3 y4 y5 y6 y7 y8 y9 y10 y11) (spec_l07Expired.l0 (k + 1) y0 y1 y2 y3 y4 y5 y6 y7 y8 y9 y10 y11))
 | 0 => fun _ _ _ _ _ _ _ _ _ _ _ _ r h => by simp [spec_l07Expired.l0] at h
 | k + 1 => by
  have ih0 := spec_l07Expired.mono_l k
  ·intro y0 y1 y2 y3 y4 y5 y6 y7 y8 y9 y10 y11
   unfold spec_l07Expired.l0
   repeat' first
   | (with_reducible exact ih0 _ _ _ _ _ _ _ _ _ _ _ _)
   | (with_reducible exact spec_l06First.mono _ _ _ _ _ _ _ _ _ _ _ _)
   | (with_reducible exact LeO.refl _)
   | (with_reducible exact LeO.none _)
   | (with_reducible refine LeO.ite ?_ ?_)
   | (with_reducible refine LeO.bind ?_ (fun _ => ?_))
   | exact ih0 _ _ _ _ _ _ _ _ _ _ _ _
   | exact spec_l06First.mono _ _ _ _ _ _ _ _ _ _ _ _
   | exact LeO.none _
   | refine LeO.ite ?_ ?_
   | refine LeO.bind ?_ (fun _ => ?_)
theorem spec_l07Expired.mono : ∀ a0 a1 a2 a3 a4 a5 a6 a7 a8 a9 a10 k,LeO (spec_l07Expired.f k a0 a1 a2 a3 a4 a5 a6 a7 a8 a9 a10) (spec_l07Expired.f (k + 1) a0 a1 a2 a3 a4 a5 a6 a7 a8 a9 a10) := by
 intro a0 a1 a2 a3 a4 a5 a6 a7 a8 a9 a10 k
 have ih0 := spec_l07Expired.mono_l k
 unfold spec_l07Expired.f
 repeat' first
   | (with_reducible exact ih0 _ _ _ _ _ _ _ _ _ _ _ _)
   | (with_reducible exact spec_l06First.mono _ _ _ _ _ _ _ _ _ _ _ _)
   | (with_reducible exact LeO.refl _)
   | (with_reducible exact LeO.none _)
   | (with_reducible refine LeO.ite ?_ ?_)
   | (with_reducible refine LeO.bind ?_ (fun _ => ?_))
   | exact ih0 _ _ _ _ _ _ _ _ _ _ _ _
   | exact spec_l06First.mono _ _ _ _ _ _ _ _ _ _ _ _
   | exact LeO.none _
   | refine LeO.ite ?_ ?_
   | refine LeO.bind ?_ (fun _ => ?_)
def spec_l07Expired.T7 : Bool × List (List Nat × List Nat) := (true,[([],[]),([0],[0]),([],[]),([2],[2]),([1,3],[1,3]),([],[]),([4,5],[4,5]),([6,3],[6]),([7],[7]),([8,7],[7,8]),([9,7,7],[7,9]),([10],[10]),([11,10],[10,11]),([10],[10]),([13,10],[10,13]),([10],[10]),([15,14,10],[10,14,15]),([16,10],[10,16]),([12,17,10],[10,12,17]),([10,18,7],[7,10,18]),([7,19],[7,19])])
def spec_l07Expired.B7 : List Nat := [0,1,0,4,15,0,63,127,255,511,1023,2047,4095,2047,10239,2047,59391,124927,262143,524287,1048575]
theorem spec_l07Expired.tab7 : rtab .any (opsOf Tryd.f37 7) = spec_l07Expired.T7 := by kernel_rfl
theorem spec_l07Expired.bits7 : waitsOk spec_l07Expired.T7.2 spec_l07Expired.B7 = true := by kernel_rfl
set_option maxHeartbeats 8000000 in
set_option maxRecDepth 100000 in
theorem spec_l07Expired.calls (k : Nat) (a0_0 : Int) (a0_1 : Int) (A0_2 : Option Addr) (c0_2 : Nat) (l0_2 : List (S39)) (A0_3 : Option Addr) (c0_3 : Nat) (l0_3 : List (S55)) (a0_4 : Int) (a0_5 : Int) (a0_6 : Int) (a0_7 : Int) (a0_8 : Int) (a0_9 : Int) (a1 : Int) (r1 : Int) (r2 : Int) (r3 : Int) (r4 : ByteArray) (r5 : Bool) (w : World) (hr0_2 : Kd.C k39 w A0_2 l0_2.length l0_2) (hc0_2 : l0_2.length ≤ c0_2) (hr0_3 : Kd.C k55 w A0_3 l0_3.length l0_3) (hc0_3 : l0_3.length ≤ c0_3) (h : spec_l07Expired.f k a0_0 a0_1 l0_2 l0_3 a0_4 a0_5 a0_6 a0_7 a0_8 a0_9 a1 = some (r1,r2,r3,r4,r5)) :
  Calls Tryd.prog 37 #[.agg #[.int .i64 a0_0,.int .i64 a0_1,.slice A0_2 l0_2.length c0_2,.slice A0_3 l0_3.length c0_3,.int .i64 a0_4,.int .i64 a0_5,.int .i64 a0_6,.int .i64 a0_7,.int .i64 a0_8,.int .i64 a0_9],.int .i64 a1] w fun e w' => e = .returned (.tuple #[.agg #[.int .i64 r1,.int .i64 r2,.int .i64 r3,.string r4],.bool r5]) ∧ Below w.heap.size w w' := by
 have hu32 := Tryd.underlying32
 have hu39 := Tryd.underlying39
 have HR0_2 := Aside0.mk hr0_2
 have HC0_2 := Aside0.mk hc0_2
 clear hr0_2 hc0_2
 have HR0_3 := Aside0.mk hr0_3
 have HC0_3 := Aside0.mk hc0_3
 clear hr0_3 hc0_3
 have HB := Aside0.mk (Below.refl w.heap.size w)
 have H : (spec_l07Expired.l0 k a1 0 a0_0 a0_1 l0_2 l0_3 a0_4 a0_5 a0_6 a0_7 a0_8 a0_9) = some (r1,r2,r3,r4,r5) := h
 clear h
 have H' := Aside0.mk H
 clear H
 go_enter Tryd.func37,Tryd.ntmps37
 go_wp2_with (first | ((with_reducible refine gate_dst (N:=2) rfl ?_); refine box_event ?hg (N:=2) ?hd (cs := #[.int .i64 a0_0,.int .i64 a0_1,.slice A0_2 l0_2.length c0_2,.slice A0_3 l0_3.length c0_3,.int .i64 a0_4,.int .i64 a0_5,.int .i64 a0_6,.int .i64 a0_7,.int .i64 a0_8,.int .i64 a0_9]) (t:=32) ?hr ?_; (case hd => rfl); (case hg => rfl); (case hr => first | (go_simp; done) | (go_simp; rfl)); intro gb259 hg w3 hbox hb; have n0_ := Aside0.mk (below_step bA hb); have n1_ := Aside0.mk (hbox); have n2_ := Aside0.mk ((gw hg : w.heap.size ≤ gb259)); have n3_ := Aside0.mk ((gw hg : w.heap.size ≤ gb259)); clear HB; have HB := n0_; have BK259 := n1_; have GW259 := n2_; have GE259 := n3_; clear n0_ n1_ n2_ n3_; clear hb hbox hg) | ((with_reducible refine gate_dst (N:=4) rfl ?_); refine box_event ?hg (N:=4) ?hd (cs := #[.int .i64 0,.int .i64 0,.int .i64 0,.string (⟨#[]⟩ : ByteArray)]) (t:=39) ?hr ?_; (case hd => rfl); (case hg => rfl); (case hr => first | (go_simp; done) | (go_simp; rfl)); intro gb260 hg w4 hbox hb; have n0_ := Aside0.mk (blk_below (g:=gb259) (o:=.cells #[.int .i64 a0_0,.int .i64 a0_1,.slice A0_2 l0_2.length c0_2,.slice A0_3 l0_3.length c0_3,.int .i64 a0_4,.int .i64 a0_5,.int .i64 a0_6,.int .i64 a0_7,.int .i64 a0_8,.int .i64 a0_9] 32 (0,0)) (kA BK259.out) hb); have n1_ := Aside0.mk (below_step bA hb); have n2_ := Aside0.mk (hbox); have n3_ := Aside0.mk ((gw hg : w.heap.size ≤ gb260)); have n4_ := Aside0.mk ((gw hg : w.heap.size ≤ gb260)); have n5_ := Aside0.mk ((by rw [hg]; exact Nat.ne_of_lt (blk_lt (g:=gb259) (o:=.cells #[.int .i64 a0_0,.int .i64 a0_1,.slice A0_2 l0_2.length c0_2,.slice A0_3 l0_3.length c0_3,.int .i64 a0_4,.int .i64 a0_5,.int .i64 a0_6,.int .i64 a0_7,.int .i64 a0_8,.int .i64 a0_9] 32 (0,0)) (kA BK259.out)) : gb259 ≠ gb260)); have n6_ := Aside0.mk ((by rw [hg]; exact Nat.ne_of_gt (blk_lt (g:=gb259) (o:=.cells #[.int .i64 a0_0,.int .i64 a0_1,.slice A0_2 l0_2.length c0_2,.slice A0_3 l0_3.length c0_3,.int .i64 a0_4,.int .i64 a0_5,.int .i64 a0_6,.int .i64 a0_7,.int .i64 a0_8,.int .i64 a0_9] 32 (0,0)) (kA BK259.out)) : gb260 ≠ gb259)); clear BK259; clear HB; have BK259 := n0_; have HB := n1_; have BK260 := n2_; have GW260 := n3_; have GE260 := n4_; have NB259_260 := n5_; have NB260_259 := n6_; clear n0_ n1_ n2_ n3_ n4_ n5_ n6_; clear hb hbox hg))
 go_loopg [6] k (fun kq v6 w' => ∃ (x6_1 : Int) (x261000_1 : Int) (x261001_1 : Int) (x261002_1 : Int) (x261003_1 : ByteArray),v6 = .int .i64 x6_1 ∧ Aside0 (spec_l07Expired.l0 kq a1 x6_1 a0_0 a0_1 l0_2 l0_3 a0_4 a0_5 a0_6 a0_7 a0_8 a0_9 = some (r1,r2,r3,r4,r5)) ∧ Aside0 (kq ≤ k) ∧ Aside0 (w'.heap[gb259]? = some (.cells #[.int .i64 a0_0,.int .i64 a0_1,(.slice A0_2 l0_2.length c0_2),(.slice A0_3 l0_3.length c0_3),.int .i64 a0_4,.int .i64 a0_5,.int .i64 a0_6,.int .i64 a0_7,.int .i64 a0_8,.int .i64 a0_9] 32 (0,0))) ∧ Aside0 (w'.heap[gb260]? = some (.cells #[.int .i64 x261000_1,.int .i64 x261001_1,.int .i64 x261002_1,.string x261003_1] 39 (0,0))) ∧ Aside0 (Below w.heap.size w w'))
 case atStart => exact ⟨(0),(0),(0),(0),((⟨#[]⟩ : ByteArray)),(by first | rfl | (simp; done) | (simp [*]; done)),H',⟨Nat.le_refl _⟩,⟨kA BK259.out⟩,⟨kA BK260.out⟩,⟨bA⟩⟩
 case round =>
  clear H'
  try clear p2
  try clear c3
  obtain ⟨x6_1,x261000_1,x261001_1,x261002_1,x261003_1,rfl,HA,HK1,BK259,BK260,HB⟩ := hrel
  cases gk with
  | zero => exact absurd HA.out (by simp [spec_l07Expired.l0])
  | succ k1 =>
   have H := HA.out
   clear HA
   simp only [spec_l07Expired.l0] at H
   by_cases c5 : x6_1 < 3
   ·rw [if_pos c5] at H
    have c5b0 : decide (x6_1 < 3) = true := decide_eq_true c5
    clear c5
    replace H := Option.bind_eq_some_iff.mp H
    obtain ⟨t261,A60,H⟩ := H
    try dsimp only at H
    have A6 := Aside0.mk A60
    clear A60
    by_cases c7 : t261 < 0
    ·rw [if_pos c7] at H
     have c7b0 : decide (t261 < 0) = true := decide_eq_true c7
     clear c7
     have H' := Aside0.mk H
     clear H
     have hnb8 := NB259_260.out
     have hnc8 := NB260_259.out
     obtain ⟨hcz9_0,hcz9_1,hcz9_2,hcz9_3,hcz9_4,hcz9_5,hcz9_6,hcz9_7,hcz9_8,hcz9_9⟩ := cl10 BK259.out
     obtain ⟨hfz9_0,hfz9_1,hfz9_2,hfz9_3,hfz9_4,hfz9_5,hfz9_6,hfz9_7,hfz9_8,hfz9_9⟩ := fz10 BK259.out
     go_wp2_with (first | ((with_reducible refine gate_callee (f:=60) rfl ?_); refine goesL_ (some 15) rfl rfl Tryd.func60 (by kernel_rfl) rfl #[.agg #[.int .i64 a0_0,.int .i64 a0_1,.slice A0_2 l0_2.length c0_2,.slice A0_3 l0_3.length c0_3,.int .i64 a0_4,.int .i64 a0_5,.int .i64 a0_6,.int .i64 a0_7,.int .i64 a0_8,.int .i64 a0_9],.int .i64 x6_1] rfl mA ?_; (with_reducible refine (spec_l06First.calls k1 a0_0 a0_1 _ _ l0_2 _ _ l0_3 a0_4 a0_5 a0_6 a0_7 a0_8 a0_9 x6_1 t261 _ ?side1 ?side2 ?side3 ?side4 A6.out).mono ?_); (case side1 => repeat (first | exact (Kd.C_below HR0_2.out HB.out) | (with_reducible refine Kd.C_alloc ?_ _) | (with_reducible refine Kd.C_drewN ?_ _) | (with_reducible refine Kd.C_drew ?_))); (case side2 => exact HC0_2.out); (case side3 => repeat (first | exact (Kd.C_below HR0_3.out HB.out) | (with_reducible refine Kd.C_alloc ?_ _) | (with_reducible refine Kd.C_drewN ?_ _) | (with_reducible refine Kd.C_drew ?_))); (case side4 => exact HC0_3.out); rintro e w10 ⟨rfl,hb⟩; refine ⟨_,rfl,?_⟩; have n0_ := Aside0.mk (blk_below (g:=gb259) (o:=.cells #[.int .i64 a0_0,.int .i64 a0_1,.slice A0_2 l0_2.length c0_2,.slice A0_3 l0_3.length c0_3,.int .i64 a0_4,.int .i64 a0_5,.int .i64 a0_6,.int .i64 a0_7,.int .i64 a0_8,.int .i64 a0_9] 32 (0,0)) (kA BK259.out) hb); have n1_ := Aside0.mk (blk_below (g:=gb260) (o:=.cells #[.int .i64 x261000_1,.int .i64 x261001_1,.int .i64 x261002_1,.string x261003_1] 39 (0,0)) (kA BK260.out) hb); have n2_ := Aside0.mk (below_step bA hb); clear BK259; clear BK260; clear HB; have BK259 := n0_; have BK260 := n1_; have HB := n2_; clear n0_ n1_ n2_; (try clear hb); (try clear hb2); (try clear hk); (try clear hi)))
     go_roundg k1
     case measure => have := HK1.out; omega
     case rel => exact ⟨(wrap64 (x6_1 + 1)),(x261000_1),(x261001_1),(x261002_1),(x261003_1),(by first | rfl | (simp; done) | (simp [*]; done)),H',⟨by have := HK1.out; omega⟩,⟨kA BK259.out⟩,⟨kA BK260.out⟩,⟨bA⟩⟩
    ·rw [if_neg c7] at H
     have c7b0 : decide (t261 < 0) = false := decide_eq_false c7
     clear c7
     by_cases c11 : 0 ≤ t261
     ·rw [if_pos c11] at H
      have c11b0 : decide (0 ≤ t261) = true := decide_eq_true c11
      clear c11
      by_cases c12 : t261 < (l0_2.length : Int)
      ·rw [if_pos c12] at H
       have c12b0 : decide (t261 < (l0_2.length : Int)) = true := decide_eq_true c12
       clear c12
       replace H := Option.bind_eq_some_iff.mp H
       obtain ⟨t264,A130,H⟩ := H
       try dsimp only at H
       have A13 := Aside0.mk A130
       clear A130
       by_cases c14 : (wrap64 (((rd_T39 l0_2 t261).f2) + t264)) ≤ a1
       ·rw [if_pos c14] at H
        have c14b0 : decide ((wrap64 (((rd_T39 l0_2 t261).f2) + t264)) ≤ a1) = true := decide_eq_true c14
        clear c14
        by_cases c15 : x6_1 = 2
        ·rw [if_pos c15] at H
         have c15b0 : (x6_1 == 2) = true := beq_iff_eq.mpr c15
         have c15b1 : (x6_1 != 2) = false := bne_eq_false_iff_eq.mpr c15
         clear c15
         simp only [Option.some.injEq,Prod.mk.injEq] at H
         obtain ⟨rfl,rfl,rfl,rfl,rfl⟩ := H
         have hnb16 := NB259_260.out
         have hnc16 := NB260_259.out
         obtain ⟨hcz17_0,hcz17_1,hcz17_2,hcz17_3,hcz17_4,hcz17_5,hcz17_6,hcz17_7,hcz17_8,hcz17_9⟩ := cl10 BK259.out
         obtain ⟨hfz17_0,hfz17_1,hfz17_2,hfz17_3,hfz17_4,hfz17_5,hfz17_6,hfz17_7,hfz17_8,hfz17_9⟩ := fz10 BK259.out
         try go_wp2_with (first | ((with_reducible refine gate_callee (f:=60) rfl ?_); refine goesL_ (some 15) rfl rfl Tryd.func60 (by kernel_rfl) rfl #[.agg #[.int .i64 a0_0,.int .i64 a0_1,.slice A0_2 l0_2.length c0_2,.slice A0_3 l0_3.length c0_3,.int .i64 a0_4,.int .i64 a0_5,.int .i64 a0_6,.int .i64 a0_7,.int .i64 a0_8,.int .i64 a0_9],.int .i64 x6_1] rfl mA ?_; (with_reducible refine (spec_l06First.calls k1 a0_0 a0_1 _ _ l0_2 _ _ l0_3 a0_4 a0_5 a0_6 a0_7 a0_8 a0_9 x6_1 t261 _ ?side1 ?side2 ?side3 ?side4 A6.out).mono ?_); (case side1 => repeat (first | exact (Kd.C_below HR0_2.out HB.out) | (with_reducible refine Kd.C_alloc ?_ _) | (with_reducible refine Kd.C_drewN ?_ _) | (with_reducible refine Kd.C_drew ?_))); (case side2 => exact HC0_2.out); (case side3 => repeat (first | exact (Kd.C_below HR0_3.out HB.out) | (with_reducible refine Kd.C_alloc ?_ _) | (with_reducible refine Kd.C_drewN ?_ _) | (with_reducible refine Kd.C_drew ?_))); (case side4 => exact HC0_3.out); rintro e w18 ⟨rfl,hb⟩; refine ⟨_,rfl,?_⟩; have n0_ := Aside0.mk (blk_below (g:=gb259) (o:=.cells #[.int .i64 a0_0,.int .i64 a0_1,.slice A0_2 l0_2.length c0_2,.slice A0_3 l0_3.length c0_3,.int .i64 a0_4,.int .i64 a0_5,.int .i64 a0_6,.int .i64 a0_7,.int .i64 a0_8,.int .i64 a0_9] 32 (0,0)) (kA BK259.out) hb); have n1_ := Aside0.mk (blk_below (g:=gb260) (o:=.cells #[.int .i64 x261000_1,.int .i64 x261001_1,.int .i64 x261002_1,.string x261003_1] 39 (0,0)) (kA BK260.out) hb); have n2_ := Aside0.mk (below_step bA hb); clear BK259; clear BK260; clear HB; have BK259 := n0_; have BK260 := n1_; have HB := n2_; clear n0_ n1_ n2_; (try clear hb); (try clear hb2); (try clear hk); (try clear hi); obtain ⟨hcz19_0,hcz19_1,hcz19_2,hcz19_3,hcz19_4,hcz19_5,hcz19_6,hcz19_7,hcz19_8,hcz19_9⟩ := cl10 BK259.out; obtain ⟨hfz19_0,hfz19_1,hfz19_2,hfz19_3,hfz19_4,hfz19_5,hfz19_6,hfz19_7,hfz19_8,hfz19_9⟩ := fz10 BK259.out; have p262 : 0 ≤ (t261 : Int) := od; have q262 : t261 < (l0_2.length : Int) := od; obtain ⟨ad262,e262,hx262_0,hx262_1,hx262_2,hx262_3⟩ := at_T39 HR0_2.out t261 p262 q262; cases e262; replace hx262_0 := cb HB.out hx262_0; replace hx262_1 := cb HB.out hx262_1; replace hx262_2 := cb HB.out hx262_2; replace hx262_3 := cb HB.out hx262_3; replace p262 := eq_true p262; replace q262 := eq_true q262) | ((with_reducible refine gate_dst (N:=8) rfl ?_); refine box_event ?hg (N:=8) ?hd (cs := #[.int .i64 0,.int .i64 0,.int .i64 0,.string (⟨#[]⟩ : ByteArray)]) (t:=39) ?hr ?_; (case hd => rfl); (case hg => rfl); (case hr => first | (go_simp; done) | (go_simp; rfl)); intro gb263 hg w20 hbox hb; have n0_ := Aside0.mk (blk_below (g:=gb259) (o:=.cells #[.int .i64 a0_0,.int .i64 a0_1,.slice (some ad262) l0_2.length c0_2,.slice A0_3 l0_3.length c0_3,.int .i64 a0_4,.int .i64 a0_5,.int .i64 a0_6,.int .i64 a0_7,.int .i64 a0_8,.int .i64 a0_9] 32 (0,0)) (kA BK259.out) hb); have n1_ := Aside0.mk (blk_below (g:=gb260) (o:=.cells #[.int .i64 x261000_1,.int .i64 x261001_1,.int .i64 x261002_1,.string x261003_1] 39 (0,0)) (kA BK260.out) hb); have n2_ := Aside0.mk (below_step bA hb); have n3_ := Aside0.mk (hbox); have n4_ := Aside0.mk ((gw hg : w.heap.size ≤ gb263)); have n5_ := Aside0.mk ((gw hg : w.heap.size ≤ gb263)); have n6_ := Aside0.mk ((by rw [hg]; exact Nat.ne_of_lt (blk_lt (g:=gb259) (o:=.cells #[.int .i64 a0_0,.int .i64 a0_1,.slice (some ad262) l0_2.length c0_2,.slice A0_3 l0_3.length c0_3,.int .i64 a0_4,.int .i64 a0_5,.int .i64 a0_6,.int .i64 a0_7,.int .i64 a0_8,.int .i64 a0_9] 32 (0,0)) (kA BK259.out)) : gb259 ≠ gb263)); have n7_ := Aside0.mk ((by rw [hg]; exact Nat.ne_of_gt (blk_lt (g:=gb259) (o:=.cells #[.int .i64 a0_0,.int .i64 a0_1,.slice (some ad262) l0_2.length c0_2,.slice A0_3 l0_3.length c0_3,.int .i64 a0_4,.int .i64 a0_5,.int .i64 a0_6,.int .i64 a0_7,.int .i64 a0_8,.int .i64 a0_9] 32 (0,0)) (kA BK259.out)) : gb263 ≠ gb259)); have n8_ := Aside0.mk ((by rw [hg]; exact Nat.ne_of_lt (blk_lt (g:=gb260) (o:=.cells #[.int .i64 x261000_1,.int .i64 x261001_1,.int .i64 x261002_1,.string x261003_1] 39 (0,0)) (kA BK260.out)) : gb260 ≠ gb263)); have n9_ := Aside0.mk ((by rw [hg]; exact Nat.ne_of_gt (blk_lt (g:=gb260) (o:=.cells #[.int .i64 x261000_1,.int .i64 x261001_1,.int .i64 x261002_1,.string x261003_1] 39 (0,0)) (kA BK260.out)) : gb263 ≠ gb260)); clear BK259; clear BK260; clear HB; have BK259 := n0_; have BK260 := n1_; have HB := n2_; have BK263 := n3_; have GW263 := n4_; have GE263 := n5_; have NB259_263 := n6_; have NB263_259 := n7_; have NB260_263 := n8_; have NB263_260 := n9_; clear n0_ n1_ n2_ n3_ n4_ n5_ n6_ n7_ n8_ n9_; clear hb hbox hg; have hnb21 := NB263_259.out; have hnc21 := NB259_263.out; have hnb22 := NB263_260.out; have hnc22 := NB260_263.out; obtain ⟨hcz23_0,hcz23_1,hcz23_2,hcz23_3⟩ := cl4 BK263.out; obtain ⟨hfz23_0,hfz23_1,hfz23_2,hfz23_3⟩ := fz4 BK263.out))
         have n0_ : Aside0 (((((w20.setCell ⟨gb263,0,none⟩ (.int .i64 ((rd_T39 l0_2 t261).f0))).setCell ⟨gb263,1,none⟩ (.int .i64 ((rd_T39 l0_2 t261).f1))).setCell ⟨gb263,2,none⟩ (.int .i64 ((rd_T39 l0_2 t261).f2))).setCell ⟨gb263,3,none⟩ (.string ((rd_T39 l0_2 t261).f3))).heap[gb259]? = some (.cells #[.int .i64 a0_0,.int .i64 a0_1,.slice (some ad262) l0_2.length c0_2,.slice A0_3 l0_3.length c0_3,.int .i64 a0_4,.int .i64 a0_5,.int .i64 a0_6,.int .i64 a0_7,.int .i64 a0_8,.int .i64 a0_9] 32 (0,0))) := ⟨kF BK259.out⟩
         have n1_ : Aside0 (((((w20.setCell ⟨gb263,0,none⟩ (.int .i64 ((rd_T39 l0_2 t261).f0))).setCell ⟨gb263,1,none⟩ (.int .i64 ((rd_T39 l0_2 t261).f1))).setCell ⟨gb263,2,none⟩ (.int .i64 ((rd_T39 l0_2 t261).f2))).setCell ⟨gb263,3,none⟩ (.string ((rd_T39 l0_2 t261).f3))).heap[gb260]? = some (.cells #[.int .i64 x261000_1,.int .i64 x261001_1,.int .i64 x261002_1,.string x261003_1] 39 (0,0))) := ⟨kF BK260.out⟩
         have n2_ : Aside0 (((((w20.setCell ⟨gb263,0,none⟩ (.int .i64 ((rd_T39 l0_2 t261).f0))).setCell ⟨gb263,1,none⟩ (.int .i64 ((rd_T39 l0_2 t261).f1))).setCell ⟨gb263,2,none⟩ (.int .i64 ((rd_T39 l0_2 t261).f2))).setCell ⟨gb263,3,none⟩ (.string ((rd_T39 l0_2 t261).f3))).heap[gb263]? = some (.cells #[.int .i64 ((rd_T39 l0_2 t261).f0),.int .i64 ((rd_T39 l0_2 t261).f1),.int .i64 ((rd_T39 l0_2 t261).f2),.string ((rd_T39 l0_2 t261).f3)] 39 (0,0))) := ⟨by (with_reducible repeat (first | refine blk_drewN ?_ _ | refine blk_drew ?_ | refine blk_alloc ?_ _)); refine blk_put (cs := #[.int .i64 ((rd_T39 l0_2 t261).f0),.int .i64 ((rd_T39 l0_2 t261).f1),.int .i64 ((rd_T39 l0_2 t261).f2),.string (⟨#[]⟩ : ByteArray)]) ?_ 3 _ rfl; (with_reducible repeat (first | refine blk_drewN ?_ _ | refine blk_drew ?_ | refine blk_alloc ?_ _)); refine blk_put (cs := #[.int .i64 ((rd_T39 l0_2 t261).f0),.int .i64 ((rd_T39 l0_2 t261).f1),.int .i64 0,.string (⟨#[]⟩ : ByteArray)]) ?_ 2 _ rfl; (with_reducible repeat (first | refine blk_drewN ?_ _ | refine blk_drew ?_ | refine blk_alloc ?_ _)); refine blk_put (cs := #[.int .i64 ((rd_T39 l0_2 t261).f0),.int .i64 0,.int .i64 0,.string (⟨#[]⟩ : ByteArray)]) ?_ 1 _ rfl; (with_reducible repeat (first | refine blk_drewN ?_ _ | refine blk_drew ?_ | refine blk_alloc ?_ _)); refine blk_put (cs := #[.int .i64 0,.int .i64 0,.int .i64 0,.string (⟨#[]⟩ : ByteArray)]) ?_ 0 _ rfl; (with_reducible repeat (first | refine blk_drewN ?_ _ | refine blk_drew ?_ | refine blk_alloc ?_ _)); exact BK263.out⟩
         have n3_ : Aside0 (Below w.heap.size w ((((w20.setCell ⟨gb263,0,none⟩ (.int .i64 ((rd_T39 l0_2 t261).f0))).setCell ⟨gb263,1,none⟩ (.int .i64 ((rd_T39 l0_2 t261).f1))).setCell ⟨gb263,2,none⟩ (.int .i64 ((rd_T39 l0_2 t261).f2))).setCell ⟨gb263,3,none⟩ (.string ((rd_T39 l0_2 t261).f3)))) := ⟨bA⟩
         (try clear BK259)
         (try clear BK260)
         (try clear BK263)
         (try clear HB)
         generalize ((((w20.setCell ⟨gb263,0,none⟩ (.int .i64 ((rd_T39 l0_2 t261).f0))).setCell ⟨gb263,1,none⟩ (.int .i64 ((rd_T39 l0_2 t261).f1))).setCell ⟨gb263,2,none⟩ (.int .i64 ((rd_T39 l0_2 t261).f2))).setCell ⟨gb263,3,none⟩ (.string ((rd_T39 l0_2 t261).f3))) = w24 at n0_ n1_ n2_ n3_ ⊢
         have BK259 := n0_
         have BK260 := n1_
         have BK263 := n2_
         have HB := n3_
         clear n0_ n1_ n2_ n3_
         have n0_ := Aside0.mk (blk_drew BK259.out)
         have n1_ := Aside0.mk (blk_drew BK260.out)
         have n2_ := Aside0.mk (blk_drew BK263.out)
         have n3_ := Aside0.mk (below_drew1 HB.out)
         clear BK259
         clear BK260
         clear BK263
         clear HB
         have BK259 := n0_
         have BK260 := n1_
         have BK263 := n2_
         have HB := n3_
         clear n0_ n1_ n2_ n3_
         refine start_ (n:=21) (S:=fun w' => w'.cell? ⟨gb263,0,none⟩ = some (.int .i64 ((rd_T39 l0_2 t261).f0)) ∧ w'.cell? ⟨gb263,1,none⟩ = some (.int .i64 ((rd_T39 l0_2 t261).f1)) ∧ w'.cell? ⟨gb263,2,none⟩ = some (.int .i64 ((rd_T39 l0_2 t261).f2)) ∧ w'.cell? ⟨gb263,3,none⟩ = some (.string ((rd_T39 l0_2 t261).f3))) (ds := []) (bm 21 0) (by kernel_rfl) rfl rfl ⟨(blk_cell BK263.out 0).trans rfl,(blk_cell BK263.out 1).trans rfl,(blk_cell BK263.out 2).trans rfl,(blk_cell BK263.out 3).trans rfl⟩ (fun hHeld => ?_); refine with_tabW spec_l07Expired.tab7 spec_l07Expired.bits7 (fun HT_ HW_ => ?_)
         generalize w24.drew = w25 at BK259 BK260 BK263 HB hHeld ⊢
         refine pV_ 0 23 (bm 21 1) HT_.out ?_
         refine pV_ 2 25 (bm 21 5) HT_.out ?_
         refine pV_ 5 28 (bm 21 37) HT_.out ?_
         refine take_ (i:=1) (N:=some 24) (v:=?_) (a':=?_) (bm 21 39) rfl rfl (take_ofW HT_.out HW_.out (by kernel_rfl)) (fun _ _ _ h => h) (Or.inl ⟨by rfl,?_⟩) hHeld ?_ ?_
         rotate_left
         ·rintro w' ⟨s0,s1,s2,s3⟩
          go_simp
          with_reducible rfl
         rotate_left
         ·simp only [Act.put,setIfInBounds_toArray,set_cons_zero,set_cons_succ,i64_w,i32_w]
          rfl
         refine one_ (i:=3) (N:=some 26) (bm 21 47) rfl rfl (one_of HT_.out (by kernel_rfl)) (by decide) (fun K hK => ?_)
         refine goes_ Tryd.func61 (by kernel_rfl) rfl #[.int .i64 x6_1] (by rfl) rfl rfl mA ?_
         with_reducible refine (spec_l04Keep.calls x6_1 t264 _ A13.out).mono ?_
         rintro e w26 ⟨rfl,hb⟩
         refine ⟨_,rfl,?_⟩
         have n0_ := Aside0.mk (blk_below (g:=gb259) (o:=.cells #[.int .i64 a0_0,.int .i64 a0_1,.slice (some ad262) l0_2.length c0_2,.slice A0_3 l0_3.length c0_3,.int .i64 a0_4,.int .i64 a0_5,.int .i64 a0_6,.int .i64 a0_7,.int .i64 a0_8,.int .i64 a0_9] 32 (0,0)) (kA BK259.out) hb)
         have n1_ := Aside0.mk (blk_below (g:=gb260) (o:=.cells #[.int .i64 x261000_1,.int .i64 x261001_1,.int .i64 x261002_1,.string x261003_1] 39 (0,0)) (kA BK260.out) hb)
         have n2_ := Aside0.mk (blk_below (g:=gb263) (o:=.cells #[.int .i64 ((rd_T39 l0_2 t261).f0),.int .i64 ((rd_T39 l0_2 t261).f1),.int .i64 ((rd_T39 l0_2 t261).f2),.string ((rd_T39 l0_2 t261).f3)] 39 (0,0)) (kA BK263.out) hb)
         have n3_ := Aside0.mk (below_step bA hb)
         clear BK259
         clear BK260
         clear BK263
         clear HB
         have BK259 := n0_
         have BK260 := n1_
         have BK263 := n2_
         have HB := n3_
         clear n0_ n1_ n2_ n3_
         (try clear hb)
         (try clear hb2)
         (try clear hk)
         (try clear hi)
         refine hK.out _ _ ⟨(blk_cell BK263.out 0).trans rfl,(blk_cell BK263.out 1).trans rfl,(blk_cell BK263.out 2).trans rfl,(blk_cell BK263.out 3).trans rfl⟩ (fun hHeld => ?_)
         clear hK K
         refine norm_ (a':=?_) ?_ ?_
         rotate_left
         ·show Act.put _ (some 26) _ = _
          simp only [Act.put,setIfInBounds_toArray,set_cons_zero,set_cons_succ,i64_w,i32_w]
          rfl
         refine pV_ 4 27 (bm 21 63) HT_.out ?_
         refine pV_ 6 29 (bm 21 127) HT_.out ?_
         refine pV_ 7 30 (bm 21 255) HT_.out ?_
         refine pV_ 8 31 (bm 21 511) HT_.out ?_
         refine pV_ 9 32 (bm 21 1023) HT_.out ?_
         refine pV_ 10 33 (bm 21 2047) HT_.out ?_
         refine pU_ 11 34 (bm 21 4095) HT_.out ?_
         refine pU_ 12 35 (bm 21 8191) HT_.out ?_
         refine pU_ 13 36 (bm 21 16383) HT_.out ?_
         refine pU_ 14 37 (bm 21 32767) HT_.out ?_
         refine pU_ 15 38 (bm 21 65535) HT_.out ?_
         refine pU_ 16 39 (bm 21 131071) HT_.out ?_
         refine pU_ 17 40 (bm 21 262143) HT_.out ?_
         refine pU_ 18 41 (bm 21 524287) HT_.out ?_
         refine pV_ 19 42 (bm 21 1048575) HT_.out ?_
         refine pV_ 20 43 (bm 21 2097151) HT_.out ?_
         refine done_ (done_of HT_.out (by kernel_rfl)) ?_
         obtain ⟨hcz27_0,hcz27_1,hcz27_2,hcz27_3⟩ := cl4 BK263.out
         obtain ⟨hfz27_0,hfz27_1,hfz27_2,hfz27_3⟩ := fz4 BK263.out
         obtain ⟨hcz28_0,hcz28_1,hcz28_2,hcz28_3⟩ := cl4 BK260.out
         obtain ⟨hfz28_0,hfz28_1,hfz28_2,hfz28_3⟩ := fz4 BK260.out
         try go_wp2
         refine bodyPost_ret (results_ct rfl _ _ gb260 39 #[.int .i64 ((rd_T39 l0_2 t261).f0),.int .i64 ((rd_T39 l0_2 t261).f1),.int .i64 ((rd_T39 l0_2 t261).f2),.string ((rd_T39 l0_2 t261).f3)] (0,0) _ rfl (by (with_reducible repeat (first | refine blk_drewN ?_ _ | refine blk_drew ?_ | refine blk_alloc ?_ _)); apply blkp4; (with_reducible repeat (first | refine blk_drewN ?_ _ | refine blk_drew ?_ | refine blk_alloc ?_ _)); exact BK260.out) Tryd.underlying39 rfl (by kernel_rfl)) rfl ?_
         exact ⟨by first | rfl | (simp only [i64_w,i32_w] <;> rfl) | (simp [errW_none,errW_some] <;> rfl) | (simp [*,errW_none,errW_some] <;> rfl),bA⟩
        ·rw [if_neg c15] at H
         have c15b0 : (x6_1 == 2) = false := beq_eq_false_iff_ne.mpr c15
         have c15b1 : (x6_1 != 2) = true := bne_iff_ne.mpr c15
         obtain ⟨ji29,hji29⟩ : ∃ j_ : Int,(wrap64 (x6_1 + 1)) = j_ := ⟨_,rfl⟩
         replace H : (if 0 ≤ (ji29) then (if (ji29) < 3 then (if ((rd_T39 l0_2 t261).f2) ≤ (at3 (ji29) a0_7 a0_8 a0_9) then (some ((rd_T39 l0_2 t261).f0,(rd_T39 l0_2 t261).f1,(rd_T39 l0_2 t261).f2,(rd_T39 l0_2 t261).f3,true)) else (spec_l07Expired.l0 k1 a1 ji29 a0_0 a0_1 l0_2 l0_3 a0_4 a0_5 a0_6 a0_7 a0_8 a0_9)) else (none)) else (none)) = some (r1,r2,r3,r4,r5) := by first | (rw [hji29] at H; exact H) | (simp only [hji29] at H ⊢; exact H)
         (try rw [hji29] at A6)
         (try rw [hji29] at A13)
         have hji29w : (IntKind.i64.wrap (x6_1 + 1)) = ji29 := (i64_w _).trans hji29
         by_cases c30 : 0 ≤ (ji29)
         ·rw [if_pos c30] at H
          have c30b0 : decide (0 ≤ (ji29)) = true := decide_eq_true c30
          clear c30
          by_cases c31 : (ji29) < 3
          ·rw [if_pos c31] at H
           have c31b0 : decide ((ji29) < 3) = true := decide_eq_true c31
           clear c31
           by_cases c32 : ((rd_T39 l0_2 t261).f2) ≤ (at3 (ji29) a0_7 a0_8 a0_9)
           ·rw [if_pos c32] at H
            have c32b0 : decide (((rd_T39 l0_2 t261).f2) ≤ (at3 (ji29) a0_7 a0_8 a0_9)) = true := decide_eq_true c32
            clear c32
            simp only [Option.some.injEq,Prod.mk.injEq] at H
            obtain ⟨rfl,rfl,rfl,rfl,rfl⟩ := H
            have hnb33 := NB259_260.out
            have hnc33 := NB260_259.out
            obtain ⟨hcz34_0,hcz34_1,hcz34_2,hcz34_3,hcz34_4,hcz34_5,hcz34_6,hcz34_7,hcz34_8,hcz34_9⟩ := cl10 BK259.out
            obtain ⟨hfz34_0,hfz34_1,hfz34_2,hfz34_3,hfz34_4,hfz34_5,hfz34_6,hfz34_7,hfz34_8,hfz34_9⟩ := fz10 BK259.out
            try go_wp2_with (first | ((with_reducible refine gate_callee (f:=60) rfl ?_); refine goesL_ (some 15) rfl rfl Tryd.func60 (by kernel_rfl) rfl #[.agg #[.int .i64 a0_0,.int .i64 a0_1,.slice A0_2 l0_2.length c0_2,.slice A0_3 l0_3.length c0_3,.int .i64 a0_4,.int .i64 a0_5,.int .i64 a0_6,.int .i64 a0_7,.int .i64 a0_8,.int .i64 a0_9],.int .i64 x6_1] rfl mA ?_; (with_reducible refine (spec_l06First.calls k1 a0_0 a0_1 _ _ l0_2 _ _ l0_3 a0_4 a0_5 a0_6 a0_7 a0_8 a0_9 x6_1 t261 _ ?side1 ?side2 ?side3 ?side4 A6.out).mono ?_); (case side1 => repeat (first | exact (Kd.C_below HR0_2.out HB.out) | (with_reducible refine Kd.C_alloc ?_ _) | (with_reducible refine Kd.C_drewN ?_ _) | (with_reducible refine Kd.C_drew ?_))); (case side2 => exact HC0_2.out); (case side3 => repeat (first | exact (Kd.C_below HR0_3.out HB.out) | (with_reducible refine Kd.C_alloc ?_ _) | (with_reducible refine Kd.C_drewN ?_ _) | (with_reducible refine Kd.C_drew ?_))); (case side4 => exact HC0_3.out); rintro e w35 ⟨rfl,hb⟩; refine ⟨_,rfl,?_⟩; have n0_ := Aside0.mk (blk_below (g:=gb259) (o:=.cells #[.int .i64 a0_0,.int .i64 a0_1,.slice A0_2 l0_2.length c0_2,.slice A0_3 l0_3.length c0_3,.int .i64 a0_4,.int .i64 a0_5,.int .i64 a0_6,.int .i64 a0_7,.int .i64 a0_8,.int .i64 a0_9] 32 (0,0)) (kA BK259.out) hb); have n1_ := Aside0.mk (blk_below (g:=gb260) (o:=.cells #[.int .i64 x261000_1,.int .i64 x261001_1,.int .i64 x261002_1,.string x261003_1] 39 (0,0)) (kA BK260.out) hb); have n2_ := Aside0.mk (below_step bA hb); clear BK259; clear BK260; clear HB; have BK259 := n0_; have BK260 := n1_; have HB := n2_; clear n0_ n1_ n2_; (try clear hb); (try clear hb2); (try clear hk); (try clear hi); obtain ⟨hcz36_0,hcz36_1,hcz36_2,hcz36_3,hcz36_4,hcz36_5,hcz36_6,hcz36_7,hcz36_8,hcz36_9⟩ := cl10 BK259.out; obtain ⟨hfz36_0,hfz36_1,hfz36_2,hfz36_3,hfz36_4,hfz36_5,hfz36_6,hfz36_7,hfz36_8,hfz36_9⟩ := fz10 BK259.out; have p262 : 0 ≤ (t261 : Int) := od; have q262 : t261 < (l0_2.length : Int) := od; obtain ⟨ad262,e262,hx262_0,hx262_1,hx262_2,hx262_3⟩ := at_T39 HR0_2.out t261 p262 q262; cases e262; replace hx262_0 := cb HB.out hx262_0; replace hx262_1 := cb HB.out hx262_1; replace hx262_2 := cb HB.out hx262_2; replace hx262_3 := cb HB.out hx262_3; replace p262 := eq_true p262; replace q262 := eq_true q262) | ((with_reducible refine gate_dst (N:=8) rfl ?_); refine box_event ?hg (N:=8) ?hd (cs := #[.int .i64 0,.int .i64 0,.int .i64 0,.string (⟨#[]⟩ : ByteArray)]) (t:=39) ?hr ?_; (case hd => rfl); (case hg => rfl); (case hr => first | (go_simp; done) | (go_simp; rfl)); intro gb263 hg w37 hbox hb; have n0_ := Aside0.mk (blk_below (g:=gb259) (o:=.cells #[.int .i64 a0_0,.int .i64 a0_1,.slice (some ad262) l0_2.length c0_2,.slice A0_3 l0_3.length c0_3,.int .i64 a0_4,.int .i64 a0_5,.int .i64 a0_6,.int .i64 a0_7,.int .i64 a0_8,.int .i64 a0_9] 32 (0,0)) (kA BK259.out) hb); have n1_ := Aside0.mk (blk_below (g:=gb260) (o:=.cells #[.int .i64 x261000_1,.int .i64 x261001_1,.int .i64 x261002_1,.string x261003_1] 39 (0,0)) (kA BK260.out) hb); have n2_ := Aside0.mk (below_step bA hb); have n3_ := Aside0.mk (hbox); have n4_ := Aside0.mk ((gw hg : w.heap.size ≤ gb263)); have n5_ := Aside0.mk ((gw hg : w.heap.size ≤ gb263)); have n6_ := Aside0.mk ((by rw [hg]; exact Nat.ne_of_lt (blk_lt (g:=gb259) (o:=.cells #[.int .i64 a0_0,.int .i64 a0_1,.slice (some ad262) l0_2.length c0_2,.slice A0_3 l0_3.length c0_3,.int .i64 a0_4,.int .i64 a0_5,.int .i64 a0_6,.int .i64 a0_7,.int .i64 a0_8,.int .i64 a0_9] 32 (0,0)) (kA BK259.out)) : gb259 ≠ gb263)); have n7_ := Aside0.mk ((by rw [hg]; exact Nat.ne_of_gt (blk_lt (g:=gb259) (o:=.cells #[.int .i64 a0_0,.int .i64 a0_1,.slice (some ad262) l0_2.length c0_2,.slice A0_3 l0_3.length c0_3,.int .i64 a0_4,.int .i64 a0_5,.int .i64 a0_6,.int .i64 a0_7,.int .i64 a0_8,.int .i64 a0_9] 32 (0,0)) (kA BK259.out)) : gb263 ≠ gb259)); have n8_ := Aside0.mk ((by rw [hg]; exact Nat.ne_of_lt (blk_lt (g:=gb260) (o:=.cells #[.int .i64 x261000_1,.int .i64 x261001_1,.int .i64 x261002_1,.string x261003_1] 39 (0,0)) (kA BK260.out)) : gb260 ≠ gb263)); have n9_ := Aside0.mk ((by rw [hg]; exact Nat.ne_of_gt (blk_lt (g:=gb260) (o:=.cells #[.int .i64 x261000_1,.int .i64 x261001_1,.int .i64 x261002_1,.string x261003_1] 39 (0,0)) (kA BK260.out)) : gb263 ≠ gb260)); clear BK259; clear BK260; clear HB; have BK259 := n0_; have BK260 := n1_; have HB := n2_; have BK263 := n3_; have GW263 := n4_; have GE263 := n5_; have NB259_263 := n6_; have NB263_259 := n7_; have NB260_263 := n8_; have NB263_260 := n9_; clear n0_ n1_ n2_ n3_ n4_ n5_ n6_ n7_ n8_ n9_; clear hb hbox hg; have hnb38 := NB263_259.out; have hnc38 := NB259_263.out; have hnb39 := NB263_260.out; have hnc39 := NB260_263.out; obtain ⟨hcz40_0,hcz40_1,hcz40_2,hcz40_3⟩ := cl4 BK263.out; obtain ⟨hfz40_0,hfz40_1,hfz40_2,hfz40_3⟩ := fz4 BK263.out))
            have n0_ : Aside0 (((((w37.setCell ⟨gb263,0,none⟩ (.int .i64 ((rd_T39 l0_2 t261).f0))).setCell ⟨gb263,1,none⟩ (.int .i64 ((rd_T39 l0_2 t261).f1))).setCell ⟨gb263,2,none⟩ (.int .i64 ((rd_T39 l0_2 t261).f2))).setCell ⟨gb263,3,none⟩ (.string ((rd_T39 l0_2 t261).f3))).heap[gb259]? = some (.cells #[.int .i64 a0_0,.int .i64 a0_1,.slice (some ad262) l0_2.length c0_2,.slice A0_3 l0_3.length c0_3,.int .i64 a0_4,.int .i64 a0_5,.int .i64 a0_6,.int .i64 a0_7,.int .i64 a0_8,.int .i64 a0_9] 32 (0,0))) := ⟨kF BK259.out⟩
            have n1_ : Aside0 (((((w37.setCell ⟨gb263,0,none⟩ (.int .i64 ((rd_T39 l0_2 t261).f0))).setCell ⟨gb263,1,none⟩ (.int .i64 ((rd_T39 l0_2 t261).f1))).setCell ⟨gb263,2,none⟩ (.int .i64 ((rd_T39 l0_2 t261).f2))).setCell ⟨gb263,3,none⟩ (.string ((rd_T39 l0_2 t261).f3))).heap[gb260]? = some (.cells #[.int .i64 x261000_1,.int .i64 x261001_1,.int .i64 x261002_1,.string x261003_1] 39 (0,0))) := ⟨kF BK260.out⟩
            have n2_ : Aside0 (((((w37.setCell ⟨gb263,0,none⟩ (.int .i64 ((rd_T39 l0_2 t261).f0))).setCell ⟨gb263,1,none⟩ (.int .i64 ((rd_T39 l0_2 t261).f1))).setCell ⟨gb263,2,none⟩ (.int .i64 ((rd_T39 l0_2 t261).f2))).setCell ⟨gb263,3,none⟩ (.string ((rd_T39 l0_2 t261).f3))).heap[gb263]? = some (.cells #[.int .i64 ((rd_T39 l0_2 t261).f0),.int .i64 ((rd_T39 l0_2 t261).f1),.int .i64 ((rd_T39 l0_2 t261).f2),.string ((rd_T39 l0_2 t261).f3)] 39 (0,0))) := ⟨by (with_reducible repeat (first | refine blk_drewN ?_ _ | refine blk_drew ?_ | refine blk_alloc ?_ _)); refine blk_put (cs := #[.int .i64 ((rd_T39 l0_2 t261).f0),.int .i64 ((rd_T39 l0_2 t261).f1),.int .i64 ((rd_T39 l0_2 t261).f2),.string (⟨#[]⟩ : ByteArray)]) ?_ 3 _ rfl; (with_reducible repeat (first | refine blk_drewN ?_ _ | refine blk_drew ?_ | refine blk_alloc ?_ _)); refine blk_put (cs := #[.int .i64 ((rd_T39 l0_2 t261).f0),.int .i64 ((rd_T39 l0_2 t261).f1),.int .i64 0,.string (⟨#[]⟩ : ByteArray)]) ?_ 2 _ rfl; (with_reducible repeat (first | refine blk_drewN ?_ _ | refine blk_drew ?_ | refine blk_alloc ?_ _)); refine blk_put (cs := #[.int .i64 ((rd_T39 l0_2 t261).f0),.int .i64 0,.int .i64 0,.string (⟨#[]⟩ : ByteArray)]) ?_ 1 _ rfl; (with_reducible repeat (first | refine blk_drewN ?_ _ | refine blk_drew ?_ | refine blk_alloc ?_ _)); refine blk_put (cs := #[.int .i64 0,.int .i64 0,.int .i64 0,.string (⟨#[]⟩ : ByteArray)]) ?_ 0 _ rfl; (with_reducible repeat (first | refine blk_drewN ?_ _ | refine blk_drew ?_ | refine blk_alloc ?_ _)); exact BK263.out⟩
            have n3_ : Aside0 (Below w.heap.size w ((((w37.setCell ⟨gb263,0,none⟩ (.int .i64 ((rd_T39 l0_2 t261).f0))).setCell ⟨gb263,1,none⟩ (.int .i64 ((rd_T39 l0_2 t261).f1))).setCell ⟨gb263,2,none⟩ (.int .i64 ((rd_T39 l0_2 t261).f2))).setCell ⟨gb263,3,none⟩ (.string ((rd_T39 l0_2 t261).f3)))) := ⟨bA⟩
            (try clear BK259)
            (try clear BK260)
            (try clear BK263)
            (try clear HB)
            generalize ((((w37.setCell ⟨gb263,0,none⟩ (.int .i64 ((rd_T39 l0_2 t261).f0))).setCell ⟨gb263,1,none⟩ (.int .i64 ((rd_T39 l0_2 t261).f1))).setCell ⟨gb263,2,none⟩ (.int .i64 ((rd_T39 l0_2 t261).f2))).setCell ⟨gb263,3,none⟩ (.string ((rd_T39 l0_2 t261).f3))) = w41 at n0_ n1_ n2_ n3_ ⊢
            have BK259 := n0_
            have BK260 := n1_
            have BK263 := n2_
            have HB := n3_
            clear n0_ n1_ n2_ n3_
            have n0_ := Aside0.mk (blk_drew BK259.out)
            have n1_ := Aside0.mk (blk_drew BK260.out)
            have n2_ := Aside0.mk (blk_drew BK263.out)
            have n3_ := Aside0.mk (below_drew1 HB.out)
            clear BK259
            clear BK260
            clear BK263
            clear HB
            have BK259 := n0_
            have BK260 := n1_
            have BK263 := n2_
            have HB := n3_
            clear n0_ n1_ n2_ n3_
            refine start_ (n:=21) (S:=fun w' => w'.cell? ⟨gb263,0,none⟩ = some (.int .i64 ((rd_T39 l0_2 t261).f0)) ∧ w'.cell? ⟨gb263,1,none⟩ = some (.int .i64 ((rd_T39 l0_2 t261).f1)) ∧ w'.cell? ⟨gb263,2,none⟩ = some (.int .i64 ((rd_T39 l0_2 t261).f2)) ∧ w'.cell? ⟨gb263,3,none⟩ = some (.string ((rd_T39 l0_2 t261).f3)) ∧ w'.cell? ⟨gb259,0,none⟩ = some (.int .i64 a0_0) ∧ w'.cell? ⟨gb259,1,none⟩ = some (.int .i64 a0_1) ∧ w'.cell? ⟨gb259,2,none⟩ = some (.slice (some ad262) l0_2.length c0_2) ∧ w'.cell? ⟨gb259,3,none⟩ = some (.slice A0_3 l0_3.length c0_3) ∧ w'.cell? ⟨gb259,4,none⟩ = some (.int .i64 a0_4) ∧ w'.cell? ⟨gb259,5,none⟩ = some (.int .i64 a0_5) ∧ w'.cell? ⟨gb259,6,none⟩ = some (.int .i64 a0_6) ∧ w'.cell? ⟨gb259,7,none⟩ = some (.int .i64 a0_7) ∧ w'.cell? ⟨gb259,8,none⟩ = some (.int .i64 a0_8) ∧ w'.cell? ⟨gb259,9,none⟩ = some (.int .i64 a0_9) ∧ w'.cell? ⟨gb259,7 + (ji29).toNat,none⟩ = some (.int .i64 (at3 (ji29) a0_7 a0_8 a0_9))) (ds := []) (bm 21 0) (by kernel_rfl) rfl rfl ⟨(blk_cell BK263.out 0).trans rfl,(blk_cell BK263.out 1).trans rfl,(blk_cell BK263.out 2).trans rfl,(blk_cell BK263.out 3).trans rfl,(blk_cell BK259.out 0).trans rfl,(blk_cell BK259.out 1).trans rfl,(blk_cell BK259.out 2).trans rfl,(blk_cell BK259.out 3).trans rfl,(blk_cell BK259.out 4).trans rfl,(blk_cell BK259.out 5).trans rfl,(blk_cell BK259.out 6).trans rfl,(blk_cell BK259.out 7).trans rfl,(blk_cell BK259.out 8).trans rfl,(blk_cell BK259.out 9).trans rfl,at3_cell (od) (od) ((blk_cell BK259.out 7).trans rfl) ((blk_cell BK259.out 8).trans rfl) ((blk_cell BK259.out 9).trans rfl)⟩ (fun hHeld => ?_); refine with_tabW spec_l07Expired.tab7 spec_l07Expired.bits7 (fun HT_ HW_ => ?_)
            generalize w41.drew = w42 at BK259 BK260 BK263 HB hHeld ⊢
            refine pV_ 0 23 (bm 21 1) HT_.out ?_
            refine pV_ 2 25 (bm 21 5) HT_.out ?_
            refine pV_ 5 28 (bm 21 37) HT_.out ?_
            refine take_ (i:=1) (N:=some 24) (v:=?_) (a':=?_) (bm 21 39) rfl rfl (take_ofW HT_.out HW_.out (by kernel_rfl)) (fun _ _ _ h => h) (Or.inl ⟨by rfl,?_⟩) hHeld ?_ ?_
            rotate_left
            ·rintro w' ⟨s0,s1,s2,s3,s4,s5,s6,s7,s8,s9,s10,s11,s12,s13,s14⟩
             go_simp
             with_reducible rfl
            rotate_left
            ·simp only [Act.put,setIfInBounds_toArray,set_cons_zero,set_cons_succ,i64_w,i32_w]
             rfl
            refine one_ (i:=3) (N:=some 26) (bm 21 47) rfl rfl (one_of HT_.out (by kernel_rfl)) (by decide) (fun K hK => ?_)
            refine goes_ Tryd.func61 (by kernel_rfl) rfl #[.int .i64 x6_1] (by rfl) rfl rfl mA ?_
            with_reducible refine (spec_l04Keep.calls x6_1 t264 _ A13.out).mono ?_
            rintro e w43 ⟨rfl,hb⟩
            refine ⟨_,rfl,?_⟩
            have n0_ := Aside0.mk (blk_below (g:=gb259) (o:=.cells #[.int .i64 a0_0,.int .i64 a0_1,.slice (some ad262) l0_2.length c0_2,.slice A0_3 l0_3.length c0_3,.int .i64 a0_4,.int .i64 a0_5,.int .i64 a0_6,.int .i64 a0_7,.int .i64 a0_8,.int .i64 a0_9] 32 (0,0)) (kA BK259.out) hb)
            have n1_ := Aside0.mk (blk_below (g:=gb260) (o:=.cells #[.int .i64 x261000_1,.int .i64 x261001_1,.int .i64 x261002_1,.string x261003_1] 39 (0,0)) (kA BK260.out) hb)
            have n2_ := Aside0.mk (blk_below (g:=gb263) (o:=.cells #[.int .i64 ((rd_T39 l0_2 t261).f0),.int .i64 ((rd_T39 l0_2 t261).f1),.int .i64 ((rd_T39 l0_2 t261).f2),.string ((rd_T39 l0_2 t261).f3)] 39 (0,0)) (kA BK263.out) hb)
            have n3_ := Aside0.mk (below_step bA hb)
            clear BK259
            clear BK260
            clear BK263
            clear HB
            have BK259 := n0_
            have BK260 := n1_
            have BK263 := n2_
            have HB := n3_
            clear n0_ n1_ n2_ n3_
            (try clear hb)
            (try clear hb2)
            (try clear hk)
            (try clear hi)
            have hia44 := ia_dyn (P:=Tryd.prog) (t:=24) (e:=3) Tryd.underlying24 (by kernel_rfl) (by kernel_rfl) gb259 7 (ji29) (od) (od)
            refine hK.out _ _ ⟨(blk_cell BK263.out 0).trans rfl,(blk_cell BK263.out 1).trans rfl,(blk_cell BK263.out 2).trans rfl,(blk_cell BK263.out 3).trans rfl,(blk_cell BK259.out 0).trans rfl,(blk_cell BK259.out 1).trans rfl,(blk_cell BK259.out 2).trans rfl,(blk_cell BK259.out 3).trans rfl,(blk_cell BK259.out 4).trans rfl,(blk_cell BK259.out 5).trans rfl,(blk_cell BK259.out 6).trans rfl,(blk_cell BK259.out 7).trans rfl,(blk_cell BK259.out 8).trans rfl,(blk_cell BK259.out 9).trans rfl,at3_cell (od) (od) ((blk_cell BK259.out 7).trans rfl) ((blk_cell BK259.out 8).trans rfl) ((blk_cell BK259.out 9).trans rfl)⟩ (fun hHeld => ?_)
            clear hK K
            refine norm_ (a':=?_) ?_ ?_
            rotate_left
            ·show Act.put _ (some 26) _ = _
             simp only [Act.put,setIfInBounds_toArray,set_cons_zero,set_cons_succ,i64_w,i32_w]
             rfl
            refine pV_ 4 27 (bm 21 63) HT_.out ?_
            refine pV_ 6 29 (bm 21 127) HT_.out ?_
            refine pV_ 7 30 (bm 21 255) HT_.out ?_
            refine pV_ 8 31 (bm 21 511) HT_.out ?_
            refine pV_ 9 32 (bm 21 1023) HT_.out ?_
            refine pV_ 10 33 (bm 21 2047) HT_.out ?_
            refine pV_ 11 34 (bm 21 4095) HT_.out ?_
            refine pV_ 13 36 (bm 21 12287) HT_.out ?_
            refine pV_ 14 37 (bm 21 28671) HT_.out ?_
            refine pV_ 15 38 (bm 21 61439) HT_.out ?_
            refine pV_ 16 39 (bm 21 126975) HT_.out ?_
            refine take_ (i:=12) (N:=some 35) (v:=?_) (a':=?_) (bm 21 131071) rfl rfl (take_ofW HT_.out HW_.out (by kernel_rfl)) (fun _ _ _ h => h) (Or.inl ⟨by rfl,?_⟩) hHeld ?_ ?_
            rotate_left
            ·rintro w' ⟨s0,s1,s2,s3,s4,s5,s6,s7,s8,s9,s10,s11,s12,s13,s14⟩
             go_simp
             with_reducible rfl
            rotate_left
            ·simp only [Act.put,setIfInBounds_toArray,set_cons_zero,set_cons_succ,i64_w,i32_w]
             rfl
            refine take_ (i:=17) (N:=some 40) (v:=?_) (a':=?_) (bm 21 262143) rfl rfl (take_ofW HT_.out HW_.out (by kernel_rfl)) (fun _ _ _ h => h) (Or.inl ⟨by rfl,?_⟩) hHeld ?_ ?_
            rotate_left
            ·rintro w' ⟨s0,s1,s2,s3,s4,s5,s6,s7,s8,s9,s10,s11,s12,s13,s14⟩
             go_simp
             with_reducible rfl
            rotate_left
            ·simp only [Act.put,setIfInBounds_toArray,set_cons_zero,set_cons_succ,i64_w,i32_w]
             rfl
            refine pV_ 18 41 (bm 21 524287) HT_.out ?_
            refine pV_ 19 42 (bm 21 1048575) HT_.out ?_
            refine pV_ 20 43 (bm 21 2097151) HT_.out ?_
            refine done_ (done_of HT_.out (by kernel_rfl)) ?_
            obtain ⟨hcz45_0,hcz45_1,hcz45_2,hcz45_3⟩ := cl4 BK263.out
            obtain ⟨hfz45_0,hfz45_1,hfz45_2,hfz45_3⟩ := fz4 BK263.out
            obtain ⟨hcz46_0,hcz46_1,hcz46_2,hcz46_3⟩ := cl4 BK260.out
            obtain ⟨hfz46_0,hfz46_1,hfz46_2,hfz46_3⟩ := fz4 BK260.out
            try go_wp2
            refine bodyPost_ret (results_ct rfl _ _ gb260 39 #[.int .i64 ((rd_T39 l0_2 t261).f0),.int .i64 ((rd_T39 l0_2 t261).f1),.int .i64 ((rd_T39 l0_2 t261).f2),.string ((rd_T39 l0_2 t261).f3)] (0,0) _ rfl (by (with_reducible repeat (first | refine blk_drewN ?_ _ | refine blk_drew ?_ | refine blk_alloc ?_ _)); apply blkp4; (with_reducible repeat (first | refine blk_drewN ?_ _ | refine blk_drew ?_ | refine blk_alloc ?_ _)); exact BK260.out) Tryd.underlying39 rfl (by kernel_rfl)) rfl ?_
            exact ⟨by first | rfl | (simp only [i64_w,i32_w] <;> rfl) | (simp [errW_none,errW_some] <;> rfl) | (simp only [← hji29]; first | rfl | (simp [errW_none,errW_some] <;> rfl)) | (simp [*,errW_none,errW_some] <;> rfl),bA⟩
           ·rw [if_neg c32] at H
            have c32b0 : decide (((rd_T39 l0_2 t261).f2) ≤ (at3 (ji29) a0_7 a0_8 a0_9)) = false := decide_eq_false c32
            clear c32
            have H' := Aside0.mk H
            clear H
            have hnb47 := NB259_260.out
            have hnc47 := NB260_259.out
            obtain ⟨hcz48_0,hcz48_1,hcz48_2,hcz48_3,hcz48_4,hcz48_5,hcz48_6,hcz48_7,hcz48_8,hcz48_9⟩ := cl10 BK259.out
            obtain ⟨hfz48_0,hfz48_1,hfz48_2,hfz48_3,hfz48_4,hfz48_5,hfz48_6,hfz48_7,hfz48_8,hfz48_9⟩ := fz10 BK259.out
            try go_wp2_with (first | ((with_reducible refine gate_callee (f:=60) rfl ?_); refine goesL_ (some 15) rfl rfl Tryd.func60 (by kernel_rfl) rfl #[.agg #[.int .i64 a0_0,.int .i64 a0_1,.slice A0_2 l0_2.length c0_2,.slice A0_3 l0_3.length c0_3,.int .i64 a0_4,.int .i64 a0_5,.int .i64 a0_6,.int .i64 a0_7,.int .i64 a0_8,.int .i64 a0_9],.int .i64 x6_1] rfl mA ?_; (with_reducible refine (spec_l06First.calls k1 a0_0 a0_1 _ _ l0_2 _ _ l0_3 a0_4 a0_5 a0_6 a0_7 a0_8 a0_9 x6_1 t261 _ ?side1 ?side2 ?side3 ?side4 A6.out).mono ?_); (case side1 => repeat (first | exact (Kd.C_below HR0_2.out HB.out) | (with_reducible refine Kd.C_alloc ?_ _) | (with_reducible refine Kd.C_drewN ?_ _) | (with_reducible refine Kd.C_drew ?_))); (case side2 => exact HC0_2.out); (case side3 => repeat (first | exact (Kd.C_below HR0_3.out HB.out) | (with_reducible refine Kd.C_alloc ?_ _) | (with_reducible refine Kd.C_drewN ?_ _) | (with_reducible refine Kd.C_drew ?_))); (case side4 => exact HC0_3.out); rintro e w49 ⟨rfl,hb⟩; refine ⟨_,rfl,?_⟩; have n0_ := Aside0.mk (blk_below (g:=gb259) (o:=.cells #[.int .i64 a0_0,.int .i64 a0_1,.slice A0_2 l0_2.length c0_2,.slice A0_3 l0_3.length c0_3,.int .i64 a0_4,.int .i64 a0_5,.int .i64 a0_6,.int .i64 a0_7,.int .i64 a0_8,.int .i64 a0_9] 32 (0,0)) (kA BK259.out) hb); have n1_ := Aside0.mk (blk_below (g:=gb260) (o:=.cells #[.int .i64 x261000_1,.int .i64 x261001_1,.int .i64 x261002_1,.string x261003_1] 39 (0,0)) (kA BK260.out) hb); have n2_ := Aside0.mk (below_step bA hb); clear BK259; clear BK260; clear HB; have BK259 := n0_; have BK260 := n1_; have HB := n2_; clear n0_ n1_ n2_; (try clear hb); (try clear hb2); (try clear hk); (try clear hi); obtain ⟨hcz50_0,hcz50_1,hcz50_2,hcz50_3,hcz50_4,hcz50_5,hcz50_6,hcz50_7,hcz50_8,hcz50_9⟩ := cl10 BK259.out; obtain ⟨hfz50_0,hfz50_1,hfz50_2,hfz50_3,hfz50_4,hfz50_5,hfz50_6,hfz50_7,hfz50_8,hfz50_9⟩ := fz10 BK259.out; have p262 : 0 ≤ (t261 : Int) := od; have q262 : t261 < (l0_2.length : Int) := od; obtain ⟨ad262,e262,hx262_0,hx262_1,hx262_2,hx262_3⟩ := at_T39 HR0_2.out t261 p262 q262; cases e262; replace hx262_0 := cb HB.out hx262_0; replace hx262_1 := cb HB.out hx262_1; replace hx262_2 := cb HB.out hx262_2; replace hx262_3 := cb HB.out hx262_3; replace p262 := eq_true p262; replace q262 := eq_true q262) | ((with_reducible refine gate_dst (N:=8) rfl ?_); refine box_event ?hg (N:=8) ?hd (cs := #[.int .i64 0,.int .i64 0,.int .i64 0,.string (⟨#[]⟩ : ByteArray)]) (t:=39) ?hr ?_; (case hd => rfl); (case hg => rfl); (case hr => first | (go_simp; done) | (go_simp; rfl)); intro gb263 hg w51 hbox hb; have n0_ := Aside0.mk (blk_below (g:=gb259) (o:=.cells #[.int .i64 a0_0,.int .i64 a0_1,.slice (some ad262) l0_2.length c0_2,.slice A0_3 l0_3.length c0_3,.int .i64 a0_4,.int .i64 a0_5,.int .i64 a0_6,.int .i64 a0_7,.int .i64 a0_8,.int .i64 a0_9] 32 (0,0)) (kA BK259.out) hb); have n1_ := Aside0.mk (blk_below (g:=gb260) (o:=.cells #[.int .i64 x261000_1,.int .i64 x261001_1,.int .i64 x261002_1,.string x261003_1] 39 (0,0)) (kA BK260.out) hb); have n2_ := Aside0.mk (below_step bA hb); have n3_ := Aside0.mk (hbox); have n4_ := Aside0.mk ((gw hg : w.heap.size ≤ gb263)); have n5_ := Aside0.mk ((gw hg : w.heap.size ≤ gb263)); have n6_ := Aside0.mk ((by rw [hg]; exact Nat.ne_of_lt (blk_lt (g:=gb259) (o:=.cells #[.int .i64 a0_0,.int .i64 a0_1,.slice (some ad262) l0_2.length c0_2,.slice A0_3 l0_3.length c0_3,.int .i64 a0_4,.int .i64 a0_5,.int .i64 a0_6,.int .i64 a0_7,.int .i64 a0_8,.int .i64 a0_9] 32 (0,0)) (kA BK259.out)) : gb259 ≠ gb263)); have n7_ := Aside0.mk ((by rw [hg]; exact Nat.ne_of_gt (blk_lt (g:=gb259) (o:=.cells #[.int .i64 a0_0,.int .i64 a0_1,.slice (some ad262) l0_2.length c0_2,.slice A0_3 l0_3.length c0_3,.int .i64 a0_4,.int .i64 a0_5,.int .i64 a0_6,.int .i64 a0_7,.int .i64 a0_8,.int .i64 a0_9] 32 (0,0)) (kA BK259.out)) : gb263 ≠ gb259)); have n8_ := Aside0.mk ((by rw [hg]; exact Nat.ne_of_lt (blk_lt (g:=gb260) (o:=.cells #[.int .i64 x261000_1,.int .i64 x261001_1,.int .i64 x261002_1,.string x261003_1] 39 (0,0)) (kA BK260.out)) : gb260 ≠ gb263)); have n9_ := Aside0.mk ((by rw [hg]; exact Nat.ne_of_gt (blk_lt (g:=gb260) (o:=.cells #[.int .i64 x261000_1,.int .i64 x261001_1,.int .i64 x261002_1,.string x261003_1] 39 (0,0)) (kA BK260.out)) : gb263 ≠ gb260)); clear BK259; clear BK260; clear HB; have BK259 := n0_; have BK260 := n1_; have HB := n2_; have BK263 := n3_; have GW263 := n4_; have GE263 := n5_; have NB259_263 := n6_; have NB263_259 := n7_; have NB260_263 := n8_; have NB263_260 := n9_; clear n0_ n1_ n2_ n3_ n4_ n5_ n6_ n7_ n8_ n9_; clear hb hbox hg; have hnb52 := NB263_259.out; have hnc52 := NB259_263.out; have hnb53 := NB263_260.out; have hnc53 := NB260_263.out; obtain ⟨hcz54_0,hcz54_1,hcz54_2,hcz54_3⟩ := cl4 BK263.out; obtain ⟨hfz54_0,hfz54_1,hfz54_2,hfz54_3⟩ := fz4 BK263.out))
            have n0_ : Aside0 (((((w51.setCell ⟨gb263,0,none⟩ (.int .i64 ((rd_T39 l0_2 t261).f0))).setCell ⟨gb263,1,none⟩ (.int .i64 ((rd_T39 l0_2 t261).f1))).setCell ⟨gb263,2,none⟩ (.int .i64 ((rd_T39 l0_2 t261).f2))).setCell ⟨gb263,3,none⟩ (.string ((rd_T39 l0_2 t261).f3))).heap[gb259]? = some (.cells #[.int .i64 a0_0,.int .i64 a0_1,.slice (some ad262) l0_2.length c0_2,.slice A0_3 l0_3.length c0_3,.int .i64 a0_4,.int .i64 a0_5,.int .i64 a0_6,.int .i64 a0_7,.int .i64 a0_8,.int .i64 a0_9] 32 (0,0))) := ⟨kF BK259.out⟩
            have n1_ : Aside0 (((((w51.setCell ⟨gb263,0,none⟩ (.int .i64 ((rd_T39 l0_2 t261).f0))).setCell ⟨gb263,1,none⟩ (.int .i64 ((rd_T39 l0_2 t261).f1))).setCell ⟨gb263,2,none⟩ (.int .i64 ((rd_T39 l0_2 t261).f2))).setCell ⟨gb263,3,none⟩ (.string ((rd_T39 l0_2 t261).f3))).heap[gb260]? = some (.cells #[.int .i64 x261000_1,.int .i64 x261001_1,.int .i64 x261002_1,.string x261003_1] 39 (0,0))) := ⟨kF BK260.out⟩
            have n2_ : Aside0 (((((w51.setCell ⟨gb263,0,none⟩ (.int .i64 ((rd_T39 l0_2 t261).f0))).setCell ⟨gb263,1,none⟩ (.int .i64 ((rd_T39 l0_2 t261).f1))).setCell ⟨gb263,2,none⟩ (.int .i64 ((rd_T39 l0_2 t261).f2))).setCell ⟨gb263,3,none⟩ (.string ((rd_T39 l0_2 t261).f3))).heap[gb263]? = some (.cells #[.int .i64 ((rd_T39 l0_2 t261).f0),.int .i64 ((rd_T39 l0_2 t261).f1),.int .i64 ((rd_T39 l0_2 t261).f2),.string ((rd_T39 l0_2 t261).f3)] 39 (0,0))) := ⟨by (with_reducible repeat (first | refine blk_drewN ?_ _ | refine blk_drew ?_ | refine blk_alloc ?_ _)); refine blk_put (cs := #[.int .i64 ((rd_T39 l0_2 t261).f0),.int .i64 ((rd_T39 l0_2 t261).f1),.int .i64 ((rd_T39 l0_2 t261).f2),.string (⟨#[]⟩ : ByteArray)]) ?_ 3 _ rfl; (with_reducible repeat (first | refine blk_drewN ?_ _ | refine blk_drew ?_ | refine blk_alloc ?_ _)); refine blk_put (cs := #[.int .i64 ((rd_T39 l0_2 t261).f0),.int .i64 ((rd_T39 l0_2 t261).f1),.int .i64 0,.string (⟨#[]⟩ : ByteArray)]) ?_ 2 _ rfl; (with_reducible repeat (first | refine blk_drewN ?_ _ | refine blk_drew ?_ | refine blk_alloc ?_ _)); refine blk_put (cs := #[.int .i64 ((rd_T39 l0_2 t261).f0),.int .i64 0,.int .i64 0,.string (⟨#[]⟩ : ByteArray)]) ?_ 1 _ rfl; (with_reducible repeat (first | refine blk_drewN ?_ _ | refine blk_drew ?_ | refine blk_alloc ?_ _)); refine blk_put (cs := #[.int .i64 0,.int .i64 0,.int .i64 0,.string (⟨#[]⟩ : ByteArray)]) ?_ 0 _ rfl; (with_reducible repeat (first | refine blk_drewN ?_ _ | refine blk_drew ?_ | refine blk_alloc ?_ _)); exact BK263.out⟩
            have n3_ : Aside0 (Below w.heap.size w ((((w51.setCell ⟨gb263,0,none⟩ (.int .i64 ((rd_T39 l0_2 t261).f0))).setCell ⟨gb263,1,none⟩ (.int .i64 ((rd_T39 l0_2 t261).f1))).setCell ⟨gb263,2,none⟩ (.int .i64 ((rd_T39 l0_2 t261).f2))).setCell ⟨gb263,3,none⟩ (.string ((rd_T39 l0_2 t261).f3)))) := ⟨bA⟩
            (try clear BK259)
            (try clear BK260)
            (try clear BK263)
            (try clear HB)
            generalize ((((w51.setCell ⟨gb263,0,none⟩ (.int .i64 ((rd_T39 l0_2 t261).f0))).setCell ⟨gb263,1,none⟩ (.int .i64 ((rd_T39 l0_2 t261).f1))).setCell ⟨gb263,2,none⟩ (.int .i64 ((rd_T39 l0_2 t261).f2))).setCell ⟨gb263,3,none⟩ (.string ((rd_T39 l0_2 t261).f3))) = w55 at n0_ n1_ n2_ n3_ ⊢
            have BK259 := n0_
            have BK260 := n1_
            have BK263 := n2_
            have HB := n3_
            clear n0_ n1_ n2_ n3_
            have n0_ := Aside0.mk (blk_drew BK259.out)
            have n1_ := Aside0.mk (blk_drew BK260.out)
            have n2_ := Aside0.mk (blk_drew BK263.out)
            have n3_ := Aside0.mk (below_drew1 HB.out)
            clear BK259
            clear BK260
            clear BK263
            clear HB
            have BK259 := n0_
            have BK260 := n1_
            have BK263 := n2_
            have HB := n3_
            clear n0_ n1_ n2_ n3_
            refine start_ (n:=21) (S:=fun w' => w'.cell? ⟨gb263,0,none⟩ = some (.int .i64 ((rd_T39 l0_2 t261).f0)) ∧ w'.cell? ⟨gb263,1,none⟩ = some (.int .i64 ((rd_T39 l0_2 t261).f1)) ∧ w'.cell? ⟨gb263,2,none⟩ = some (.int .i64 ((rd_T39 l0_2 t261).f2)) ∧ w'.cell? ⟨gb263,3,none⟩ = some (.string ((rd_T39 l0_2 t261).f3)) ∧ w'.cell? ⟨gb259,0,none⟩ = some (.int .i64 a0_0) ∧ w'.cell? ⟨gb259,1,none⟩ = some (.int .i64 a0_1) ∧ w'.cell? ⟨gb259,2,none⟩ = some (.slice (some ad262) l0_2.length c0_2) ∧ w'.cell? ⟨gb259,3,none⟩ = some (.slice A0_3 l0_3.length c0_3) ∧ w'.cell? ⟨gb259,4,none⟩ = some (.int .i64 a0_4) ∧ w'.cell? ⟨gb259,5,none⟩ = some (.int .i64 a0_5) ∧ w'.cell? ⟨gb259,6,none⟩ = some (.int .i64 a0_6) ∧ w'.cell? ⟨gb259,7,none⟩ = some (.int .i64 a0_7) ∧ w'.cell? ⟨gb259,8,none⟩ = some (.int .i64 a0_8) ∧ w'.cell? ⟨gb259,9,none⟩ = some (.int .i64 a0_9) ∧ w'.cell? ⟨gb259,7 + (ji29).toNat,none⟩ = some (.int .i64 (at3 (ji29) a0_7 a0_8 a0_9))) (ds := []) (bm 21 0) (by kernel_rfl) rfl rfl ⟨(blk_cell BK263.out 0).trans rfl,(blk_cell BK263.out 1).trans rfl,(blk_cell BK263.out 2).trans rfl,(blk_cell BK263.out 3).trans rfl,(blk_cell BK259.out 0).trans rfl,(blk_cell BK259.out 1).trans rfl,(blk_cell BK259.out 2).trans rfl,(blk_cell BK259.out 3).trans rfl,(blk_cell BK259.out 4).trans rfl,(blk_cell BK259.out 5).trans rfl,(blk_cell BK259.out 6).trans rfl,(blk_cell BK259.out 7).trans rfl,(blk_cell BK259.out 8).trans rfl,(blk_cell BK259.out 9).trans rfl,at3_cell (od) (od) ((blk_cell BK259.out 7).trans rfl) ((blk_cell BK259.out 8).trans rfl) ((blk_cell BK259.out 9).trans rfl)⟩ (fun hHeld => ?_); refine with_tabW spec_l07Expired.tab7 spec_l07Expired.bits7 (fun HT_ HW_ => ?_)
            generalize w55.drew = w56 at BK259 BK260 BK263 HB hHeld ⊢
            refine pV_ 0 23 (bm 21 1) HT_.out ?_
            refine pV_ 2 25 (bm 21 5) HT_.out ?_
            refine pV_ 5 28 (bm 21 37) HT_.out ?_
            refine take_ (i:=1) (N:=some 24) (v:=?_) (a':=?_) (bm 21 39) rfl rfl (take_ofW HT_.out HW_.out (by kernel_rfl)) (fun _ _ _ h => h) (Or.inl ⟨by rfl,?_⟩) hHeld ?_ ?_
            rotate_left
            ·rintro w' ⟨s0,s1,s2,s3,s4,s5,s6,s7,s8,s9,s10,s11,s12,s13,s14⟩
             go_simp
             with_reducible rfl
            rotate_left
            ·simp only [Act.put,setIfInBounds_toArray,set_cons_zero,set_cons_succ,i64_w,i32_w]
             rfl
            refine one_ (i:=3) (N:=some 26) (bm 21 47) rfl rfl (one_of HT_.out (by kernel_rfl)) (by decide) (fun K hK => ?_)
            refine goes_ Tryd.func61 (by kernel_rfl) rfl #[.int .i64 x6_1] (by rfl) rfl rfl mA ?_
            with_reducible refine (spec_l04Keep.calls x6_1 t264 _ A13.out).mono ?_
            rintro e w57 ⟨rfl,hb⟩
            refine ⟨_,rfl,?_⟩
            have n0_ := Aside0.mk (blk_below (g:=gb259) (o:=.cells #[.int .i64 a0_0,.int .i64 a0_1,.slice (some ad262) l0_2.length c0_2,.slice A0_3 l0_3.length c0_3,.int .i64 a0_4,.int .i64 a0_5,.int .i64 a0_6,.int .i64 a0_7,.int .i64 a0_8,.int .i64 a0_9] 32 (0,0)) (kA BK259.out) hb)
            have n1_ := Aside0.mk (blk_below (g:=gb260) (o:=.cells #[.int .i64 x261000_1,.int .i64 x261001_1,.int .i64 x261002_1,.string x261003_1] 39 (0,0)) (kA BK260.out) hb)
            have n2_ := Aside0.mk (blk_below (g:=gb263) (o:=.cells #[.int .i64 ((rd_T39 l0_2 t261).f0),.int .i64 ((rd_T39 l0_2 t261).f1),.int .i64 ((rd_T39 l0_2 t261).f2),.string ((rd_T39 l0_2 t261).f3)] 39 (0,0)) (kA BK263.out) hb)
            have n3_ := Aside0.mk (below_step bA hb)
            clear BK259
            clear BK260
            clear BK263
            clear HB
            have BK259 := n0_
            have BK260 := n1_
            have BK263 := n2_
            have HB := n3_
            clear n0_ n1_ n2_ n3_
            (try clear hb)
            (try clear hb2)
            (try clear hk)
            (try clear hi)
            have hia58 := ia_dyn (P:=Tryd.prog) (t:=24) (e:=3) Tryd.underlying24 (by kernel_rfl) (by kernel_rfl) gb259 7 (ji29) (od) (od)
            refine hK.out _ _ ⟨(blk_cell BK263.out 0).trans rfl,(blk_cell BK263.out 1).trans rfl,(blk_cell BK263.out 2).trans rfl,(blk_cell BK263.out 3).trans rfl,(blk_cell BK259.out 0).trans rfl,(blk_cell BK259.out 1).trans rfl,(blk_cell BK259.out 2).trans rfl,(blk_cell BK259.out 3).trans rfl,(blk_cell BK259.out 4).trans rfl,(blk_cell BK259.out 5).trans rfl,(blk_cell BK259.out 6).trans rfl,(blk_cell BK259.out 7).trans rfl,(blk_cell BK259.out 8).trans rfl,(blk_cell BK259.out 9).trans rfl,at3_cell (od) (od) ((blk_cell BK259.out 7).trans rfl) ((blk_cell BK259.out 8).trans rfl) ((blk_cell BK259.out 9).trans rfl)⟩ (fun hHeld => ?_)
            clear hK K
            refine norm_ (a':=?_) ?_ ?_
            rotate_left
            ·show Act.put _ (some 26) _ = _
             simp only [Act.put,setIfInBounds_toArray,set_cons_zero,set_cons_succ,i64_w,i32_w]
             rfl
            refine pV_ 4 27 (bm 21 63) HT_.out ?_
            refine pV_ 6 29 (bm 21 127) HT_.out ?_
            refine pV_ 7 30 (bm 21 255) HT_.out ?_
            refine pV_ 8 31 (bm 21 511) HT_.out ?_
            refine pV_ 9 32 (bm 21 1023) HT_.out ?_
            refine pV_ 10 33 (bm 21 2047) HT_.out ?_
            refine pV_ 11 34 (bm 21 4095) HT_.out ?_
            refine pV_ 13 36 (bm 21 12287) HT_.out ?_
            refine pV_ 14 37 (bm 21 28671) HT_.out ?_
            refine pV_ 15 38 (bm 21 61439) HT_.out ?_
            refine pV_ 16 39 (bm 21 126975) HT_.out ?_
            refine take_ (i:=12) (N:=some 35) (v:=?_) (a':=?_) (bm 21 131071) rfl rfl (take_ofW HT_.out HW_.out (by kernel_rfl)) (fun _ _ _ h => h) (Or.inl ⟨by rfl,?_⟩) hHeld ?_ ?_
            rotate_left
            ·rintro w' ⟨s0,s1,s2,s3,s4,s5,s6,s7,s8,s9,s10,s11,s12,s13,s14⟩
             go_simp
             with_reducible rfl
            rotate_left
            ·simp only [Act.put,setIfInBounds_toArray,set_cons_zero,set_cons_succ,i64_w,i32_w]
             rfl
            refine take_ (i:=17) (N:=some 40) (v:=?_) (a':=?_) (bm 21 262143) rfl rfl (take_ofW HT_.out HW_.out (by kernel_rfl)) (fun _ _ _ h => h) (Or.inl ⟨by rfl,?_⟩) hHeld ?_ ?_
            rotate_left
            ·rintro w' ⟨s0,s1,s2,s3,s4,s5,s6,s7,s8,s9,s10,s11,s12,s13,s14⟩
             go_simp
             with_reducible rfl
            rotate_left
            ·simp only [Act.put,setIfInBounds_toArray,set_cons_zero,set_cons_succ,i64_w,i32_w]
             rfl
            refine pV_ 18 41 (bm 21 524287) HT_.out ?_
            refine pV_ 19 42 (bm 21 1048575) HT_.out ?_
            refine pV_ 20 43 (bm 21 2097151) HT_.out ?_
            refine done_ (done_of HT_.out (by kernel_rfl)) ?_
            try go_wp2
            go_roundg k1
            case measure => have := HK1.out; omega
            case rel => exact ⟨(ji29),(x261000_1),(x261001_1),(x261002_1),(x261003_1),(by first | rfl | (simp; done) | (simp only [← hji29] <;> (first | rfl | simp)) | (simp [*]; done)),H',⟨by have := HK1.out; omega⟩,⟨kA BK259.out⟩,⟨kA BK260.out⟩,⟨bA⟩⟩
          ·rw [if_neg c31] at H
           exact absurd H (by simp)
         ·rw [if_neg c30] at H
          exact absurd H (by simp)
       ·rw [if_neg c14] at H
        have c14b0 : decide ((wrap64 (((rd_T39 l0_2 t261).f2) + t264)) ≤ a1) = false := decide_eq_false c14
        clear c14
        have H' := Aside0.mk H
        clear H
        have hnb59 := NB259_260.out
        have hnc59 := NB260_259.out
        obtain ⟨hcz60_0,hcz60_1,hcz60_2,hcz60_3,hcz60_4,hcz60_5,hcz60_6,hcz60_7,hcz60_8,hcz60_9⟩ := cl10 BK259.out
        obtain ⟨hfz60_0,hfz60_1,hfz60_2,hfz60_3,hfz60_4,hfz60_5,hfz60_6,hfz60_7,hfz60_8,hfz60_9⟩ := fz10 BK259.out
        try go_wp2_with (first | ((with_reducible refine gate_callee (f:=60) rfl ?_); refine goesL_ (some 15) rfl rfl Tryd.func60 (by kernel_rfl) rfl #[.agg #[.int .i64 a0_0,.int .i64 a0_1,.slice A0_2 l0_2.length c0_2,.slice A0_3 l0_3.length c0_3,.int .i64 a0_4,.int .i64 a0_5,.int .i64 a0_6,.int .i64 a0_7,.int .i64 a0_8,.int .i64 a0_9],.int .i64 x6_1] rfl mA ?_; (with_reducible refine (spec_l06First.calls k1 a0_0 a0_1 _ _ l0_2 _ _ l0_3 a0_4 a0_5 a0_6 a0_7 a0_8 a0_9 x6_1 t261 _ ?side1 ?side2 ?side3 ?side4 A6.out).mono ?_); (case side1 => repeat (first | exact (Kd.C_below HR0_2.out HB.out) | (with_reducible refine Kd.C_alloc ?_ _) | (with_reducible refine Kd.C_drewN ?_ _) | (with_reducible refine Kd.C_drew ?_))); (case side2 => exact HC0_2.out); (case side3 => repeat (first | exact (Kd.C_below HR0_3.out HB.out) | (with_reducible refine Kd.C_alloc ?_ _) | (with_reducible refine Kd.C_drewN ?_ _) | (with_reducible refine Kd.C_drew ?_))); (case side4 => exact HC0_3.out); rintro e w61 ⟨rfl,hb⟩; refine ⟨_,rfl,?_⟩; have n0_ := Aside0.mk (blk_below (g:=gb259) (o:=.cells #[.int .i64 a0_0,.int .i64 a0_1,.slice A0_2 l0_2.length c0_2,.slice A0_3 l0_3.length c0_3,.int .i64 a0_4,.int .i64 a0_5,.int .i64 a0_6,.int .i64 a0_7,.int .i64 a0_8,.int .i64 a0_9] 32 (0,0)) (kA BK259.out) hb); have n1_ := Aside0.mk (blk_below (g:=gb260) (o:=.cells #[.int .i64 x261000_1,.int .i64 x261001_1,.int .i64 x261002_1,.string x261003_1] 39 (0,0)) (kA BK260.out) hb); have n2_ := Aside0.mk (below_step bA hb); clear BK259; clear BK260; clear HB; have BK259 := n0_; have BK260 := n1_; have HB := n2_; clear n0_ n1_ n2_; (try clear hb); (try clear hb2); (try clear hk); (try clear hi); obtain ⟨hcz62_0,hcz62_1,hcz62_2,hcz62_3,hcz62_4,hcz62_5,hcz62_6,hcz62_7,hcz62_8,hcz62_9⟩ := cl10 BK259.out; obtain ⟨hfz62_0,hfz62_1,hfz62_2,hfz62_3,hfz62_4,hfz62_5,hfz62_6,hfz62_7,hfz62_8,hfz62_9⟩ := fz10 BK259.out; have p262 : 0 ≤ (t261 : Int) := od; have q262 : t261 < (l0_2.length : Int) := od; obtain ⟨ad262,e262,hx262_0,hx262_1,hx262_2,hx262_3⟩ := at_T39 HR0_2.out t261 p262 q262; cases e262; replace hx262_0 := cb HB.out hx262_0; replace hx262_1 := cb HB.out hx262_1; replace hx262_2 := cb HB.out hx262_2; replace hx262_3 := cb HB.out hx262_3; replace p262 := eq_true p262; replace q262 := eq_true q262) | ((with_reducible refine gate_dst (N:=8) rfl ?_); refine box_event ?hg (N:=8) ?hd (cs := #[.int .i64 0,.int .i64 0,.int .i64 0,.string (⟨#[]⟩ : ByteArray)]) (t:=39) ?hr ?_; (case hd => rfl); (case hg => rfl); (case hr => first | (go_simp; done) | (go_simp; rfl)); intro gb263 hg w63 hbox hb; have n0_ := Aside0.mk (blk_below (g:=gb259) (o:=.cells #[.int .i64 a0_0,.int .i64 a0_1,.slice (some ad262) l0_2.length c0_2,.slice A0_3 l0_3.length c0_3,.int .i64 a0_4,.int .i64 a0_5,.int .i64 a0_6,.int .i64 a0_7,.int .i64 a0_8,.int .i64 a0_9] 32 (0,0)) (kA BK259.out) hb); have n1_ := Aside0.mk (blk_below (g:=gb260) (o:=.cells #[.int .i64 x261000_1,.int .i64 x261001_1,.int .i64 x261002_1,.string x261003_1] 39 (0,0)) (kA BK260.out) hb); have n2_ := Aside0.mk (below_step bA hb); have n3_ := Aside0.mk (hbox); have n4_ := Aside0.mk ((gw hg : w.heap.size ≤ gb263)); have n5_ := Aside0.mk ((gw hg : w.heap.size ≤ gb263)); have n6_ := Aside0.mk ((by rw [hg]; exact Nat.ne_of_lt (blk_lt (g:=gb259) (o:=.cells #[.int .i64 a0_0,.int .i64 a0_1,.slice (some ad262) l0_2.length c0_2,.slice A0_3 l0_3.length c0_3,.int .i64 a0_4,.int .i64 a0_5,.int .i64 a0_6,.int .i64 a0_7,.int .i64 a0_8,.int .i64 a0_9] 32 (0,0)) (kA BK259.out)) : gb259 ≠ gb263)); have n7_ := Aside0.mk ((by rw [hg]; exact Nat.ne_of_gt (blk_lt (g:=gb259) (o:=.cells #[.int .i64 a0_0,.int .i64 a0_1,.slice (some ad262) l0_2.length c0_2,.slice A0_3 l0_3.length c0_3,.int .i64 a0_4,.int .i64 a0_5,.int .i64 a0_6,.int .i64 a0_7,.int .i64 a0_8,.int .i64 a0_9] 32 (0,0)) (kA BK259.out)) : gb263 ≠ gb259)); have n8_ := Aside0.mk ((by rw [hg]; exact Nat.ne_of_lt (blk_lt (g:=gb260) (o:=.cells #[.int .i64 x261000_1,.int .i64 x261001_1,.int .i64 x261002_1,.string x261003_1] 39 (0,0)) (kA BK260.out)) : gb260 ≠ gb263)); have n9_ := Aside0.mk ((by rw [hg]; exact Nat.ne_of_gt (blk_lt (g:=gb260) (o:=.cells #[.int .i64 x261000_1,.int .i64 x261001_1,.int .i64 x261002_1,.string x261003_1] 39 (0,0)) (kA BK260.out)) : gb263 ≠ gb260)); clear BK259; clear BK260; clear HB; have BK259 := n0_; have BK260 := n1_; have HB := n2_; have BK263 := n3_; have GW263 := n4_; have GE263 := n5_; have NB259_263 := n6_; have NB263_259 := n7_; have NB260_263 := n8_; have NB263_260 := n9_; clear n0_ n1_ n2_ n3_ n4_ n5_ n6_ n7_ n8_ n9_; clear hb hbox hg; have hnb64 := NB263_259.out; have hnc64 := NB259_263.out; have hnb65 := NB263_260.out; have hnc65 := NB260_263.out; obtain ⟨hcz66_0,hcz66_1,hcz66_2,hcz66_3⟩ := cl4 BK263.out; obtain ⟨hfz66_0,hfz66_1,hfz66_2,hfz66_3⟩ := fz4 BK263.out))
        have n0_ : Aside0 (((((w63.setCell ⟨gb263,0,none⟩ (.int .i64 ((rd_T39 l0_2 t261).f0))).setCell ⟨gb263,1,none⟩ (.int .i64 ((rd_T39 l0_2 t261).f1))).setCell ⟨gb263,2,none⟩ (.int .i64 ((rd_T39 l0_2 t261).f2))).setCell ⟨gb263,3,none⟩ (.string ((rd_T39 l0_2 t261).f3))).heap[gb259]? = some (.cells #[.int .i64 a0_0,.int .i64 a0_1,.slice (some ad262) l0_2.length c0_2,.slice A0_3 l0_3.length c0_3,.int .i64 a0_4,.int .i64 a0_5,.int .i64 a0_6,.int .i64 a0_7,.int .i64 a0_8,.int .i64 a0_9] 32 (0,0))) := ⟨kF BK259.out⟩
        have n1_ : Aside0 (((((w63.setCell ⟨gb263,0,none⟩ (.int .i64 ((rd_T39 l0_2 t261).f0))).setCell ⟨gb263,1,none⟩ (.int .i64 ((rd_T39 l0_2 t261).f1))).setCell ⟨gb263,2,none⟩ (.int .i64 ((rd_T39 l0_2 t261).f2))).setCell ⟨gb263,3,none⟩ (.string ((rd_T39 l0_2 t261).f3))).heap[gb260]? = some (.cells #[.int .i64 x261000_1,.int .i64 x261001_1,.int .i64 x261002_1,.string x261003_1] 39 (0,0))) := ⟨kF BK260.out⟩
        have n2_ : Aside0 (((((w63.setCell ⟨gb263,0,none⟩ (.int .i64 ((rd_T39 l0_2 t261).f0))).setCell ⟨gb263,1,none⟩ (.int .i64 ((rd_T39 l0_2 t261).f1))).setCell ⟨gb263,2,none⟩ (.int .i64 ((rd_T39 l0_2 t261).f2))).setCell ⟨gb263,3,none⟩ (.string ((rd_T39 l0_2 t261).f3))).heap[gb263]? = some (.cells #[.int .i64 ((rd_T39 l0_2 t261).f0),.int .i64 ((rd_T39 l0_2 t261).f1),.int .i64 ((rd_T39 l0_2 t261).f2),.string ((rd_T39 l0_2 t261).f3)] 39 (0,0))) := ⟨by (with_reducible repeat (first | refine blk_drewN ?_ _ | refine blk_drew ?_ | refine blk_alloc ?_ _)); refine blk_put (cs := #[.int .i64 ((rd_T39 l0_2 t261).f0),.int .i64 ((rd_T39 l0_2 t261).f1),.int .i64 ((rd_T39 l0_2 t261).f2),.string (⟨#[]⟩ : ByteArray)]) ?_ 3 _ rfl; (with_reducible repeat (first | refine blk_drewN ?_ _ | refine blk_drew ?_ | refine blk_alloc ?_ _)); refine blk_put (cs := #[.int .i64 ((rd_T39 l0_2 t261).f0),.int .i64 ((rd_T39 l0_2 t261).f1),.int .i64 0,.string (⟨#[]⟩ : ByteArray)]) ?_ 2 _ rfl; (with_reducible repeat (first | refine blk_drewN ?_ _ | refine blk_drew ?_ | refine blk_alloc ?_ _)); refine blk_put (cs := #[.int .i64 ((rd_T39 l0_2 t261).f0),.int .i64 0,.int .i64 0,.string (⟨#[]⟩ : ByteArray)]) ?_ 1 _ rfl; (with_reducible repeat (first | refine blk_drewN ?_ _ | refine blk_drew ?_ | refine blk_alloc ?_ _)); refine blk_put (cs := #[.int .i64 0,.int .i64 0,.int .i64 0,.string (⟨#[]⟩ : ByteArray)]) ?_ 0 _ rfl; (with_reducible repeat (first | refine blk_drewN ?_ _ | refine blk_drew ?_ | refine blk_alloc ?_ _)); exact BK263.out⟩
        have n3_ : Aside0 (Below w.heap.size w ((((w63.setCell ⟨gb263,0,none⟩ (.int .i64 ((rd_T39 l0_2 t261).f0))).setCell ⟨gb263,1,none⟩ (.int .i64 ((rd_T39 l0_2 t261).f1))).setCell ⟨gb263,2,none⟩ (.int .i64 ((rd_T39 l0_2 t261).f2))).setCell ⟨gb263,3,none⟩ (.string ((rd_T39 l0_2 t261).f3)))) := ⟨bA⟩
        (try clear BK259)
        (try clear BK260)
        (try clear BK263)
        (try clear HB)
        generalize ((((w63.setCell ⟨gb263,0,none⟩ (.int .i64 ((rd_T39 l0_2 t261).f0))).setCell ⟨gb263,1,none⟩ (.int .i64 ((rd_T39 l0_2 t261).f1))).setCell ⟨gb263,2,none⟩ (.int .i64 ((rd_T39 l0_2 t261).f2))).setCell ⟨gb263,3,none⟩ (.string ((rd_T39 l0_2 t261).f3))) = w67 at n0_ n1_ n2_ n3_ ⊢
        have BK259 := n0_
        have BK260 := n1_
        have BK263 := n2_
        have HB := n3_
        clear n0_ n1_ n2_ n3_
        have n0_ := Aside0.mk (blk_drew BK259.out)
        have n1_ := Aside0.mk (blk_drew BK260.out)
        have n2_ := Aside0.mk (blk_drew BK263.out)
        have n3_ := Aside0.mk (below_drew1 HB.out)
        clear BK259
        clear BK260
        clear BK263
        clear HB
        have BK259 := n0_
        have BK260 := n1_
        have BK263 := n2_
        have HB := n3_
        clear n0_ n1_ n2_ n3_
        refine start_ (n:=21) (S:=fun w' => w'.cell? ⟨gb263,0,none⟩ = some (.int .i64 ((rd_T39 l0_2 t261).f0)) ∧ w'.cell? ⟨gb263,1,none⟩ = some (.int .i64 ((rd_T39 l0_2 t261).f1)) ∧ w'.cell? ⟨gb263,2,none⟩ = some (.int .i64 ((rd_T39 l0_2 t261).f2)) ∧ w'.cell? ⟨gb263,3,none⟩ = some (.string ((rd_T39 l0_2 t261).f3))) (ds := []) (bm 21 0) (by kernel_rfl) rfl rfl ⟨(blk_cell BK263.out 0).trans rfl,(blk_cell BK263.out 1).trans rfl,(blk_cell BK263.out 2).trans rfl,(blk_cell BK263.out 3).trans rfl⟩ (fun hHeld => ?_); refine with_tabW spec_l07Expired.tab7 spec_l07Expired.bits7 (fun HT_ HW_ => ?_)
        generalize w67.drew = w68 at BK259 BK260 BK263 HB hHeld ⊢
        refine pV_ 0 23 (bm 21 1) HT_.out ?_
        refine pV_ 2 25 (bm 21 5) HT_.out ?_
        refine pV_ 5 28 (bm 21 37) HT_.out ?_
        refine take_ (i:=1) (N:=some 24) (v:=?_) (a':=?_) (bm 21 39) rfl rfl (take_ofW HT_.out HW_.out (by kernel_rfl)) (fun _ _ _ h => h) (Or.inl ⟨by rfl,?_⟩) hHeld ?_ ?_
        rotate_left
        ·rintro w' ⟨s0,s1,s2,s3⟩
         go_simp
         with_reducible rfl
        rotate_left
        ·simp only [Act.put,setIfInBounds_toArray,set_cons_zero,set_cons_succ,i64_w,i32_w]
         rfl
        refine one_ (i:=3) (N:=some 26) (bm 21 47) rfl rfl (one_of HT_.out (by kernel_rfl)) (by decide) (fun K hK => ?_)
        refine goes_ Tryd.func61 (by kernel_rfl) rfl #[.int .i64 x6_1] (by rfl) rfl rfl mA ?_
        with_reducible refine (spec_l04Keep.calls x6_1 t264 _ A13.out).mono ?_
        rintro e w69 ⟨rfl,hb⟩
        refine ⟨_,rfl,?_⟩
        have n0_ := Aside0.mk (blk_below (g:=gb259) (o:=.cells #[.int .i64 a0_0,.int .i64 a0_1,.slice (some ad262) l0_2.length c0_2,.slice A0_3 l0_3.length c0_3,.int .i64 a0_4,.int .i64 a0_5,.int .i64 a0_6,.int .i64 a0_7,.int .i64 a0_8,.int .i64 a0_9] 32 (0,0)) (kA BK259.out) hb)
        have n1_ := Aside0.mk (blk_below (g:=gb260) (o:=.cells #[.int .i64 x261000_1,.int .i64 x261001_1,.int .i64 x261002_1,.string x261003_1] 39 (0,0)) (kA BK260.out) hb)
        have n2_ := Aside0.mk (blk_below (g:=gb263) (o:=.cells #[.int .i64 ((rd_T39 l0_2 t261).f0),.int .i64 ((rd_T39 l0_2 t261).f1),.int .i64 ((rd_T39 l0_2 t261).f2),.string ((rd_T39 l0_2 t261).f3)] 39 (0,0)) (kA BK263.out) hb)
        have n3_ := Aside0.mk (below_step bA hb)
        clear BK259
        clear BK260
        clear BK263
        clear HB
        have BK259 := n0_
        have BK260 := n1_
        have BK263 := n2_
        have HB := n3_
        clear n0_ n1_ n2_ n3_
        (try clear hb)
        (try clear hb2)
        (try clear hk)
        (try clear hi)
        refine hK.out _ _ ⟨(blk_cell BK263.out 0).trans rfl,(blk_cell BK263.out 1).trans rfl,(blk_cell BK263.out 2).trans rfl,(blk_cell BK263.out 3).trans rfl⟩ (fun hHeld => ?_)
        clear hK K
        refine norm_ (a':=?_) ?_ ?_
        rotate_left
        ·show Act.put _ (some 26) _ = _
         simp only [Act.put,setIfInBounds_toArray,set_cons_zero,set_cons_succ,i64_w,i32_w]
         rfl
        refine pV_ 4 27 (bm 21 63) HT_.out ?_
        refine pV_ 6 29 (bm 21 127) HT_.out ?_
        refine pV_ 7 30 (bm 21 255) HT_.out ?_
        refine pU_ 8 31 (bm 21 511) HT_.out ?_
        refine pU_ 9 32 (bm 21 1023) HT_.out ?_
        refine pU_ 10 33 (bm 21 2047) HT_.out ?_
        refine pU_ 11 34 (bm 21 4095) HT_.out ?_
        refine pU_ 12 35 (bm 21 8191) HT_.out ?_
        refine pU_ 13 36 (bm 21 16383) HT_.out ?_
        refine pU_ 14 37 (bm 21 32767) HT_.out ?_
        refine pU_ 15 38 (bm 21 65535) HT_.out ?_
        refine pU_ 16 39 (bm 21 131071) HT_.out ?_
        refine pU_ 17 40 (bm 21 262143) HT_.out ?_
        refine pU_ 18 41 (bm 21 524287) HT_.out ?_
        refine pU_ 19 42 (bm 21 1048575) HT_.out ?_
        refine pV_ 20 43 (bm 21 2097151) HT_.out ?_
        refine done_ (done_of HT_.out (by kernel_rfl)) ?_
        try go_wp2
        go_roundg k1
        case measure => have := HK1.out; omega
        case rel => exact ⟨(wrap64 (x6_1 + 1)),(x261000_1),(x261001_1),(x261002_1),(x261003_1),(by first | rfl | (simp; done) | (simp [*]; done)),H',⟨by have := HK1.out; omega⟩,⟨kA BK259.out⟩,⟨kA BK260.out⟩,⟨bA⟩⟩
      ·rw [if_neg c12] at H
       exact absurd H (by simp)
     ·rw [if_neg c11] at H
      exact absurd H (by simp)
   ·rw [if_neg c5] at H
    have c5b0 : decide (x6_1 < 3) = false := decide_eq_false c5
    clear c5
    simp only [Option.some.injEq,Prod.mk.injEq] at H
    obtain ⟨rfl,rfl,rfl,rfl,rfl⟩ := H
    have hnb70 := NB260_259.out
    have hnc70 := NB259_260.out
    obtain ⟨hcz71_0,hcz71_1,hcz71_2,hcz71_3⟩ := cl4 BK260.out
    obtain ⟨hfz71_0,hfz71_1,hfz71_2,hfz71_3⟩ := fz4 BK260.out
    go_wp2
    refine bodyPost_ret (results_ct rfl _ _ gb260 39 #[.int .i64 0,.int .i64 0,.int .i64 0,.string (⟨#[]⟩ : ByteArray)] (0,0) _ rfl (by (with_reducible repeat (first | refine blk_drewN ?_ _ | refine blk_drew ?_ | refine blk_alloc ?_ _)); apply blkp4; (with_reducible repeat (first | refine blk_drewN ?_ _ | refine blk_drew ?_ | refine blk_alloc ?_ _)); exact BK260.out) Tryd.underlying39 rfl (by kernel_rfl)) rfl ?_
    exact ⟨by first | rfl | (simp only [i64_w,i32_w] <;> rfl) | (simp [errW_none,errW_some] <;> rfl) | (simp [*,errW_none,errW_some] <;> rfl),bA⟩

end Go.Proofs.YtfondhlknkhmmaaDoor.XFnExactExpiredEntry
