-- Printed by this session's own program wip/tools/xprint.py, which widens the kit's print. Not trusted: Lean checks it.
import Derived.Test.YtfondhlknkhmmaaDoorXFnExactExpiredEntryx0
import Derived.Test.YtfondhlknkhmmaaDoorXFnExactExpiredEntryx10
import Derived.Test.YtfondhlknkhmmaaDoorXFnExactExpiredEntryx12
namespace Go.Proofs.YtfondhlknkhmmaaDoor.XFnExactExpiredEntry
open List (setIfInBounds_toArray set_cons_zero set_cons_succ)
open Go.RowKit Go.Proofs.YtfondhlknkhmmaaDoorW.PrintWords Go.Proofs.YtfondhlknkhmmaaDoorW.PrintLast Go.Proofs.YtfondhlknkhmmaaDoorW.PrintMore
attribute [local go_sem] max2_int min2_int max_two min_two max_three min_three max_four min_four   -- for this text's walks alone
set_option linter.unusedVariables false
set_option linter.unusedSimpArgs false

/-! ### impl_State_expired: function 40 -/
def impl_State_expired.l0 : Nat → Int → Int → Int → Int → List (S39) → List (S55) → Int → Int → Int → Int → Int → Int → Option (Int × Int × Int × ByteArray × Bool)
 | 0,_,_,_,_,_,_,_,_,_,_,_,_ => none
 | k + 1,x1,x8,x333000,x333001,x333002,x333003,x333004,x333005,x333006,x333007,x333008,x333009 => if x8 < 3 then ((impl_State_of.f k x333000 x333001 x333002 x333003 x333004 x333005 x333006 x333007 x333008 x333009 x8).bind fun t334 => (if (t334.length : Int) > 0 then (if 0 < (t334.length : Int) then ((impl_keep.f x8).bind fun t338 => (if (wrap64 (((rd_T39 t334 0).f2) + t338)) ≤ x1 then (if x8 = 2 then (some ((rd_T39 t334 0).f0,(rd_T39 t334 0).f1,(rd_T39 t334 0).f2,(rd_T39 t334 0).f3,true)) else (if 0 ≤ (mn (wrap64 (x8 + 1)) 2) then (if (mn (wrap64 (x8 + 1)) 2) < 3 then (if ((rd_T39 t334 0).f2) ≤ (at3 (mn (wrap64 (x8 + 1)) 2) x333007 x333008 x333009) then (some ((rd_T39 t334 0).f0,(rd_T39 t334 0).f1,(rd_T39 t334 0).f2,(rd_T39 t334 0).f3,true)) else (impl_State_expired.l0 k x1 (wrap64 (x8 + 1)) x333000 x333001 x333002 x333003 x333004 x333005 x333006 x333007 x333008 x333009)) else (none)) else (none))) else (impl_State_expired.l0 k x1 (wrap64 (x8 + 1)) x333000 x333001 x333002 x333003 x333004 x333005 x333006 x333007 x333008 x333009))) else (none)) else (impl_State_expired.l0 k x1 (wrap64 (x8 + 1)) x333000 x333001 x333002 x333003 x333004 x333005 x333006 x333007 x333008 x333009))) else (some (0,0,0,(⟨#[]⟩ : ByteArray),false))
def impl_State_expired.f (k : Nat) (a0_0 : Int) (a0_1 : Int) (l0_2 : List (S39)) (l0_3 : List (S55)) (a0_4 : Int) (a0_5 : Int) (a0_6 : Int) (a0_7 : Int) (a0_8 : Int) (a0_9 : Int) (a1 : Int) : Option (Int × Int × Int × ByteArray × Bool) := impl_State_expired.l0 k a1 0 a0_0 a0_1 l0_2 l0_3 a0_4 a0_5 a0_6 a0_7 a0_8 a0_9
theorem impl_State_expired.mono_l : ∀ k,(∀ y0 y1 y2 y3 y4 y5 y6 y7 y8 y9 y10 y11,LeO (impl_State_expired.l0 k y0 y1 y2 y3 y4 y5 y6 y7 y8 y9 y10 y11) (impl_State_expired.l0 (k + 1) y0 y1 y2 y3 y4 y5 y6 y7 y8 y9 y10 y11))
 | 0 => fun _ _ _ _ _ _ _ _ _ _ _ _ r h => by simp [impl_State_expired.l0] at h
 | k + 1 => by
  have ih0 := impl_State_expired.mono_l k
  ·intro y0 y1 y2 y3 y4 y5 y6 y7 y8 y9 y10 y11
   unfold impl_State_expired.l0
   repeat' first
   | (with_reducible exact ih0 _ _ _ _ _ _ _ _ _ _ _ _)
   | (with_reducible exact impl_State_of.mono _ _ _ _ _ _ _ _ _ _ _ _)
   | (with_reducible exact LeO.refl _)
   | (with_reducible exact LeO.none _)
   | (with_reducible refine LeO.ite ?_ ?_)
   | (with_reducible refine LeO.bind ?_ (fun _ => ?_))
   | exact ih0 _ _ _ _ _ _ _ _ _ _ _ _
   | exact impl_State_of.mono _ _ _ _ _ _ _ _ _ _ _ _
   | exact LeO.none _
   | refine LeO.ite ?_ ?_
   | refine LeO.bind ?_ (fun _ => ?_)
theorem impl_State_expired.mono : ∀ a0 a1 a2 a3 a4 a5 a6 a7 a8 a9 a10 k,LeO (impl_State_expired.f k a0 a1 a2 a3 a4 a5 a6 a7 a8 a9 a10) (impl_State_expired.f (k + 1) a0 a1 a2 a3 a4 a5 a6 a7 a8 a9 a10) := by
 intro a0 a1 a2 a3 a4 a5 a6 a7 a8 a9 a10 k
 have ih0 := impl_State_expired.mono_l k
 unfold impl_State_expired.f
 repeat' first
   | (with_reducible exact ih0 _ _ _ _ _ _ _ _ _ _ _ _)
   | (with_reducible exact impl_State_of.mono _ _ _ _ _ _ _ _ _ _ _ _)
   | (with_reducible exact LeO.refl _)
   | (with_reducible exact LeO.none _)
   | (with_reducible refine LeO.ite ?_ ?_)
   | (with_reducible refine LeO.bind ?_ (fun _ => ?_))
   | exact ih0 _ _ _ _ _ _ _ _ _ _ _ _
   | exact impl_State_of.mono _ _ _ _ _ _ _ _ _ _ _ _
   | exact LeO.none _
   | refine LeO.ite ?_ ?_
   | refine LeO.bind ?_ (fun _ => ?_)
def impl_State_expired.T5 : Bool × List (List Nat × List Nat) := (true,[([],[]),([0],[0]),([1],[1]),([2],[2]),([3],[3]),([4,3],[3,4]),([5,3],[3,5]),([6,3],[3,6]),([3],[3]),([8,3,3],[3,8]),([7,9,3],[3,7,9]),([3],[3]),([10,11,3],[3,10,11]),([3,12],[3,12]),([13,9],[13]),([14],[14]),([15,14],[14,15]),([16,14,14],[14,16]),([17],[17]),([18,17],[17,18]),([19,17],[17,19]),([20,17],[17,20]),([17],[17]),([22,17],[17,22]),([23,17],[17,23]),([17],[17]),([25,24,17],[17,24,25]),([26,17],[17,26]),([21,27,17],[17,21,27]),([17,28,14],[14,17,28]),([14,29],[14,29])])
def impl_State_expired.B5 : List Nat := [0,1,3,7,15,31,63,127,15,271,1023,15,4095,8191,16383,32767,65535,131071,262143,524287,1048575,2097151,262143,4456447,12845055,262143,63176703,130285567,268435455,536870911,1073741823]
theorem impl_State_expired.tab5 : rtab .any (opsOf Tryd.f40 5) = impl_State_expired.T5 := by kernel_rfl
theorem impl_State_expired.bits5 : waitsOk impl_State_expired.T5.2 impl_State_expired.B5 = true := by kernel_rfl
set_option maxHeartbeats 8000000 in
set_option maxRecDepth 100000 in
theorem impl_State_expired.calls (k : Nat) (a0_0 : Int) (a0_1 : Int) (A0_2 : Option Addr) (c0_2 : Nat) (l0_2 : List (S39)) (A0_3 : Option Addr) (c0_3 : Nat) (l0_3 : List (S55)) (a0_4 : Int) (a0_5 : Int) (a0_6 : Int) (a0_7 : Int) (a0_8 : Int) (a0_9 : Int) (a1 : Int) (r1 : Int) (r2 : Int) (r3 : Int) (r4 : ByteArray) (r5 : Bool) (w : World) (hr0_2 : Kd.C k39 w A0_2 l0_2.length l0_2) (hc0_2 : l0_2.length ≤ c0_2) (hr0_3 : Kd.C k55 w A0_3 l0_3.length l0_3) (hc0_3 : l0_3.length ≤ c0_3) (h : impl_State_expired.f k a0_0 a0_1 l0_2 l0_3 a0_4 a0_5 a0_6 a0_7 a0_8 a0_9 a1 = some (r1,r2,r3,r4,r5)) :
  Calls Tryd.prog 40 #[.agg #[.int .i64 a0_0,.int .i64 a0_1,.slice A0_2 l0_2.length c0_2,.slice A0_3 l0_3.length c0_3,.int .i64 a0_4,.int .i64 a0_5,.int .i64 a0_6,.int .i64 a0_7,.int .i64 a0_8,.int .i64 a0_9],.int .i64 a1] w fun e w' => e = .returned (.tuple #[.agg #[.int .i64 r1,.int .i64 r2,.int .i64 r3,.string r4],.bool r5]) ∧ Below w.heap.size w w' := by
 have hu32 := Tryd.underlying32
 have hu39 := Tryd.underlying39
 have HR0_2 := Aside0.mk hr0_2
 have HC0_2 := Aside0.mk hc0_2
 clear hr0_2 hc0_2
 have HR0_3 := Aside0.mk hr0_3
 have HC0_3 := Aside0.mk hc0_3
 clear hr0_3 hc0_3
 have HB := Aside0.mk (Below.refl w.heap.size w)
 have H : (impl_State_expired.l0 k a1 0 a0_0 a0_1 l0_2 l0_3 a0_4 a0_5 a0_6 a0_7 a0_8 a0_9) = some (r1,r2,r3,r4,r5) := h
 clear h
 have H' := Aside0.mk H
 clear H
 go_enter Tryd.func40,Tryd.ntmps40
 go_wp2_with (first | ((with_reducible refine gate_dst (N:=2) rfl ?_); (try (refine gate_guard (by rfl) ?_; dsimp only)); refine box_event ?hg (N:=2) ?hd (cs := #[.int .i64 a0_0,.int .i64 a0_1,.slice A0_2 l0_2.length c0_2,.slice A0_3 l0_3.length c0_3,.int .i64 a0_4,.int .i64 a0_5,.int .i64 a0_6,.int .i64 a0_7,.int .i64 a0_8,.int .i64 a0_9]) (t:=32) ?hr ?_; (case hd => rfl); (case hg => rfl); (case hr => first | (go_simp; done) | (go_simp; rfl)); intro gb332 hg w3 hbox hb; have n0_ := Aside0.mk (below_step bA hb); have n1_ := Aside0.mk (hbox); have n2_ := Aside0.mk ((gw hg : w.heap.size ≤ gb332)); have n3_ := Aside0.mk ((gw hg : w.heap.size ≤ gb332)); clear HB; have HB := n0_; have BK332 := n1_; have GW332 := n2_; have GE332 := n3_; clear n0_ n1_ n2_ n3_; clear hb hbox hg) | ((with_reducible refine gate_dst (N:=4) rfl ?_); (try (refine gate_guard (by rfl) ?_; dsimp only)); refine box_event ?hg (N:=4) ?hd (cs := #[.int .i64 0,.int .i64 0,.int .i64 0,.string (⟨#[]⟩ : ByteArray)]) (t:=39) ?hr ?_; (case hd => rfl); (case hg => rfl); (case hr => first | (go_simp; done) | (go_simp; rfl)); intro gb333 hg w4 hbox hb; have n0_ := Aside0.mk (blk_below (g:=gb332) (o:=.cells #[.int .i64 a0_0,.int .i64 a0_1,.slice A0_2 l0_2.length c0_2,.slice A0_3 l0_3.length c0_3,.int .i64 a0_4,.int .i64 a0_5,.int .i64 a0_6,.int .i64 a0_7,.int .i64 a0_8,.int .i64 a0_9] 32 (0,0)) (kA BK332.out) hb); have n1_ := Aside0.mk (below_step bA hb); have n2_ := Aside0.mk (hbox); have n3_ := Aside0.mk ((gw hg : w.heap.size ≤ gb333)); have n4_ := Aside0.mk ((gw hg : w.heap.size ≤ gb333)); have n5_ := Aside0.mk ((by rw [hg]; exact Nat.ne_of_lt (blk_lt (g:=gb332) (o:=.cells #[.int .i64 a0_0,.int .i64 a0_1,.slice A0_2 l0_2.length c0_2,.slice A0_3 l0_3.length c0_3,.int .i64 a0_4,.int .i64 a0_5,.int .i64 a0_6,.int .i64 a0_7,.int .i64 a0_8,.int .i64 a0_9] 32 (0,0)) (kA BK332.out)) : gb332 ≠ gb333)); have n6_ := Aside0.mk ((by rw [hg]; exact Nat.ne_of_gt (blk_lt (g:=gb332) (o:=.cells #[.int .i64 a0_0,.int .i64 a0_1,.slice A0_2 l0_2.length c0_2,.slice A0_3 l0_3.length c0_3,.int .i64 a0_4,.int .i64 a0_5,.int .i64 a0_6,.int .i64 a0_7,.int .i64 a0_8,.int .i64 a0_9] 32 (0,0)) (kA BK332.out)) : gb333 ≠ gb332)); clear BK332; clear HB; have BK332 := n0_; have HB := n1_; have BK333 := n2_; have GW333 := n3_; have GE333 := n4_; have NB332_333 := n5_; have NB333_332 := n6_; clear n0_ n1_ n2_ n3_ n4_ n5_ n6_; clear hb hbox hg))
 go_loopg [8] k (fun kq v8 w' => ∃ (x8_1 : Int) (x334000_1 : Int) (x334001_1 : Int) (x334002_1 : Int) (x334003_1 : ByteArray),v8 = .int .i64 x8_1 ∧ Aside0 (impl_State_expired.l0 kq a1 x8_1 a0_0 a0_1 l0_2 l0_3 a0_4 a0_5 a0_6 a0_7 a0_8 a0_9 = some (r1,r2,r3,r4,r5)) ∧ Aside0 (kq ≤ k) ∧ Aside0 (w'.heap[gb332]? = some (.cells #[.int .i64 a0_0,.int .i64 a0_1,(.slice A0_2 l0_2.length c0_2),(.slice A0_3 l0_3.length c0_3),.int .i64 a0_4,.int .i64 a0_5,.int .i64 a0_6,.int .i64 a0_7,.int .i64 a0_8,.int .i64 a0_9] 32 (0,0))) ∧ Aside0 (w'.heap[gb333]? = some (.cells #[.int .i64 x334000_1,.int .i64 x334001_1,.int .i64 x334002_1,.string x334003_1] 39 (0,0))) ∧ Aside0 (Below w.heap.size w w'))
 case atStart => exact ⟨(0),(0),(0),(0),((⟨#[]⟩ : ByteArray)),(by first | rfl | (simp; done) | (simp [*]; done)),H',⟨Nat.le_refl _⟩,⟨kA BK332.out⟩,⟨kA BK333.out⟩,⟨bA⟩⟩
 case round =>
  clear H'
  try clear p2
  try clear c4
  obtain ⟨x8_1,x334000_1,x334001_1,x334002_1,x334003_1,rfl,HA,HK1,BK332,BK333,HB⟩ := hrel
  cases gk with
  | zero => exact absurd HA.out (by simp [impl_State_expired.l0])
  | succ k1 =>
   have H := HA.out
   clear HA
   simp only [impl_State_expired.l0] at H
   by_cases c5 : x8_1 < 3
   ·rw [if_pos c5] at H
    have c5b0 : decide (x8_1 < 3) = true := decide_eq_true c5
    clear c5
    replace H := Option.bind_eq_some_iff.mp H
    obtain ⟨t334,A60,H⟩ := H
    try dsimp only at H
    have A6 := Aside0.mk A60
    clear A60
    by_cases c7 : (t334.length : Int) > 0
    ·rw [if_pos c7] at H
     have c7b0 : decide (0 < (t334.length : Int)) = true := decide_eq_true c7
     have c7b1 : decide (0 < t334.length) = true := decide_eq_true (by omega)
     clear c7
     by_cases c8 : 0 < (t334.length : Int)
     ·rw [if_pos c8] at H
      have c8b0 : decide (0 < (t334.length : Int)) = true := decide_eq_true c8
      have c8b1 : decide (0 < t334.length) = true := decide_eq_true (by omega)
      clear c8
      replace H := Option.bind_eq_some_iff.mp H
      obtain ⟨t338,A90,H⟩ := H
      try dsimp only at H
      have A9 := Aside0.mk A90
      clear A90
      by_cases c10 : (wrap64 (((rd_T39 t334 0).f2) + t338)) ≤ a1
      ·rw [if_pos c10] at H
       have c10b0 : decide ((wrap64 (((rd_T39 t334 0).f2) + t338)) ≤ a1) = true := decide_eq_true c10
       clear c10
       by_cases c11 : x8_1 = 2
       ·rw [if_pos c11] at H
        have c11b0 : (x8_1 == 2) = true := beq_iff_eq.mpr c11
        have c11b1 : (x8_1 != 2) = false := bne_eq_false_iff_eq.mpr c11
        clear c11
        simp only [Option.some.injEq,Prod.mk.injEq] at H
        obtain ⟨rfl,rfl,rfl,rfl,rfl⟩ := H
        have hnb12 := NB332_333.out
        have hnc12 := NB333_332.out
        obtain ⟨hcz13_0,hcz13_1,hcz13_2,hcz13_3,hcz13_4,hcz13_5,hcz13_6,hcz13_7,hcz13_8,hcz13_9⟩ := cl10 BK332.out
        obtain ⟨hfz13_0,hfz13_1,hfz13_2,hfz13_3,hfz13_4,hfz13_5,hfz13_6,hfz13_7,hfz13_8,hfz13_9⟩ := fz10 BK332.out
        try go_wp2_with (first | ((with_reducible refine gate_callee (f:=30) rfl ?_); refine goesL_ (some 13) rfl rfl Tryd.func30 (by kernel_rfl) rfl #[.agg #[.int .i64 a0_0,.int .i64 a0_1,.slice A0_2 l0_2.length c0_2,.slice A0_3 l0_3.length c0_3,.int .i64 a0_4,.int .i64 a0_5,.int .i64 a0_6,.int .i64 a0_7,.int .i64 a0_8,.int .i64 a0_9],.int .i64 x8_1] rfl mA ?_; (with_reducible refine (impl_State_of.calls k1 a0_0 a0_1 _ _ l0_2 _ _ l0_3 a0_4 a0_5 a0_6 a0_7 a0_8 a0_9 x8_1 t334 _ ?side1 ?side2 ?side3 ?side4 A6.out).mono ?_); (case side1 => repeat (first | exact (Kd.C_below HR0_2.out HB.out) | (with_reducible refine Kd.C_alloc ?_ _) | (with_reducible refine Kd.C_drewN ?_ _) | (with_reducible refine Kd.C_drew ?_))); (case side2 => exact HC0_2.out); (case side3 => repeat (first | exact (Kd.C_below HR0_3.out HB.out) | (with_reducible refine Kd.C_alloc ?_ _) | (with_reducible refine Kd.C_drewN ?_ _) | (with_reducible refine Kd.C_drew ?_))); (case side4 => exact HC0_3.out); rintro e w14 ⟨v335,rfl,ho0,hb⟩; refine ⟨_,rfl,?_⟩; have n0_ := Aside0.mk (Kd.R_lower (Kd.R_newB ho0 (g:=gb333) (o:=.cells #[.int .i64 x334000_1,.int .i64 x334001_1,.int .i64 x334002_1,.string x334003_1] 39 (0,0)) (kA BK333.out)) (below_size bA)); have n1_ := Aside0.mk (blk_below (g:=gb332) (o:=.cells #[.int .i64 a0_0,.int .i64 a0_1,.slice A0_2 l0_2.length c0_2,.slice A0_3 l0_3.length c0_3,.int .i64 a0_4,.int .i64 a0_5,.int .i64 a0_6,.int .i64 a0_7,.int .i64 a0_8,.int .i64 a0_9] 32 (0,0)) (kA BK332.out) hb); have n2_ := Aside0.mk (blk_below (g:=gb333) (o:=.cells #[.int .i64 x334000_1,.int .i64 x334001_1,.int .i64 x334002_1,.string x334003_1] 39 (0,0)) (kA BK333.out) hb); have n3_ := Aside0.mk (below_step bA hb); clear BK332; clear BK333; clear HB; have HO336 := n0_; have BK332 := n1_; have BK333 := n2_; have HB := n3_; clear n0_ n1_ n2_ n3_; (try clear hb); (try clear hb2); (try clear hk); (try clear hi); (try clear ho0)))
        have n0_ := Aside0.mk (Kd.R_drew HO336.out)
        have n1_ := Aside0.mk (blk_drew BK332.out)
        have n2_ := Aside0.mk (blk_drew BK333.out)
        have n3_ := Aside0.mk (below_drew1 HB.out)
        clear HO336
        clear BK332
        clear BK333
        clear HB
        have HO336 := n0_
        have BK332 := n1_
        have BK333 := n2_
        have HB := n3_
        clear n0_ n1_ n2_ n3_
        obtain ⟨Ao16,co16,eo16⟩ := Kd.R_slice HO336.out
        (first | subst eo16 | (injection eo16 with f1_ f2_ f3_; have f4_ := f1_.symm; have f5_ := f3_.symm; clear f1_ f2_ f3_; subst f4_; subst f5_))
        have p337 : 0 ≤ (0 : Int) := (by omega)
        have q337 : 0 < (t334.length : Int) := od
        obtain ⟨ad337,e337,hx337_0,hx337_1,hx337_2,hx337_3⟩ := at_T39 (Kd.R_reads' HO336.out).2.2 0 p337 q337
        cases e337
        have qi337 : (0 < t334.length) = True := eq_true (by omega)
        (try rw [show ((0 : Int)).toNat = 0 from rfl] at hx337_0)
        (try rw [show 0 * 4 = 0 from rfl] at hx337_0)
        (try rw [Addr.add_zero'] at hx337_0)
        (try rw [show ((0 : Int)).toNat = 0 from rfl] at hx337_1)
        (try rw [show 0 * 4 = 0 from rfl] at hx337_1)
        (try rw [Addr.add_zero'] at hx337_1)
        (try rw [show ((0 : Int)).toNat = 0 from rfl] at hx337_2)
        (try rw [show 0 * 4 = 0 from rfl] at hx337_2)
        (try rw [Addr.add_zero'] at hx337_2)
        (try rw [show ((0 : Int)).toNat = 0 from rfl] at hx337_3)
        (try rw [show 0 * 4 = 0 from rfl] at hx337_3)
        (try rw [Addr.add_zero'] at hx337_3)
        replace p337 := eq_true p337
        replace q337 := eq_true q337
        refine start_ (n:=31) (S:=fun w' => w'.cell? ad337 = some (.int .i64 ((rd_T39 t334 0).f0)) ∧ w'.cell? ⟨ad337.block,ad337.off + 1,none⟩ = some (.int .i64 ((rd_T39 t334 0).f1)) ∧ w'.cell? ⟨ad337.block,ad337.off + 2,none⟩ = some (.int .i64 ((rd_T39 t334 0).f2)) ∧ w'.cell? ⟨ad337.block,ad337.off + 3,none⟩ = some (.string ((rd_T39 t334 0).f3))) (ds := []) (bm 31 0) (by kernel_rfl) rfl rfl ⟨hx337_0,hx337_1,hx337_2,hx337_3⟩ (fun hHeld => ?_); refine with_tabW impl_State_expired.tab5 impl_State_expired.bits5 (fun HT_ HW_ => ?_)
        generalize w14.drew = w15 at HO336 BK332 BK333 HB hx337_0 hx337_1 hx337_2 hx337_3 hHeld ⊢
        refine pV_ 0 14 (bm 31 1) HT_.out ?_
        refine pV_ 1 15 (bm 31 3) HT_.out ?_
        refine pV_ 2 16 (bm 31 7) HT_.out ?_
        refine pV_ 3 17 (bm 31 15) HT_.out ?_
        refine pV_ 4 18 (bm 31 31) HT_.out ?_
        refine pV_ 5 19 (bm 31 63) HT_.out ?_
        refine pV_ 6 20 (bm 31 127) HT_.out ?_
        refine pV_ 8 22 (bm 31 383) HT_.out ?_
        refine pV_ 11 25 (bm 31 2431) HT_.out ?_
        refine take_ (i:=7) (N:=some 21) (v:=?_) (a':=?_) (bm 31 2559) rfl rfl (take_ofW HT_.out HW_.out (by kernel_rfl)) (fun _ _ _ h => h) (Or.inl ⟨by rfl,?_⟩) hHeld ?_ ?_
        rotate_left
        ·rintro w' ⟨s0,s1,s2,s3⟩
         go_simp
         with_reducible rfl
        rotate_left
        ·simp only [Act.put,setIfInBounds_toArray,set_cons_zero,set_cons_succ,i64_w,i32_w]
         rfl
        refine one_ (i:=9) (N:=some 23) (bm 31 3071) rfl rfl (one_of HT_.out (by kernel_rfl)) (by decide) (fun K hK => ?_)
        refine goes_ Tryd.func62 (by kernel_rfl) rfl #[.int .i64 x8_1] (by rfl) rfl rfl mA ?_
        with_reducible refine (impl_keep.calls x8_1 t338 _ A9.out).mono ?_
        rintro e w17 ⟨rfl,hb⟩
        have HS0_ := (hb.cell (World.block_lt_of_cell? _ _ (hHeld.1))).trans (hHeld.1)
        have HS1_ := (hb.cell (World.block_lt_of_cell? _ _ (hHeld.2.1))).trans (hHeld.2.1)
        have HS2_ := (hb.cell (World.block_lt_of_cell? _ _ (hHeld.2.2.1))).trans (hHeld.2.2.1)
        have HS3_ := (hb.cell (World.block_lt_of_cell? _ _ (hHeld.2.2.2))).trans (hHeld.2.2.2)
        refine ⟨_,rfl,?_⟩
        have n0_ := Aside0.mk (Kd.R_below (rA HO336.out) hb)
        have n1_ := Aside0.mk (blk_below (g:=gb332) (o:=.cells #[.int .i64 a0_0,.int .i64 a0_1,.slice A0_2 l0_2.length c0_2,.slice A0_3 l0_3.length c0_3,.int .i64 a0_4,.int .i64 a0_5,.int .i64 a0_6,.int .i64 a0_7,.int .i64 a0_8,.int .i64 a0_9] 32 (0,0)) (kA BK332.out) hb)
        have n2_ := Aside0.mk (blk_below (g:=gb333) (o:=.cells #[.int .i64 x334000_1,.int .i64 x334001_1,.int .i64 x334002_1,.string x334003_1] 39 (0,0)) (kA BK333.out) hb)
        have n3_ := Aside0.mk (below_step bA hb)
        clear HO336
        clear BK332
        clear BK333
        clear HB
        have HO336 := n0_
        have BK332 := n1_
        have BK333 := n2_
        have HB := n3_
        clear n0_ n1_ n2_ n3_
        (try clear hb)
        (try clear hb2)
        (try clear hk)
        (try clear hi)
        refine hK.out _ _ ⟨HS0_,HS1_,HS2_,HS3_⟩ (fun hHeld => ?_)
        clear hK K
        refine norm_ (a':=?_) ?_ ?_
        rotate_left
        ·show Act.put _ (some 23) _ = _
         simp only [Act.put,setIfInBounds_toArray,set_cons_zero,set_cons_succ,i64_w,i32_w]
         rfl
        refine pV_ 10 24 (bm 31 4095) HT_.out ?_
        refine pV_ 12 26 (bm 31 8191) HT_.out ?_
        refine pV_ 13 27 (bm 31 16383) HT_.out ?_
        refine pV_ 14 28 (bm 31 32767) HT_.out ?_
        refine pV_ 15 29 (bm 31 65535) HT_.out ?_
        refine pV_ 16 30 (bm 31 131071) HT_.out ?_
        refine pV_ 17 31 (bm 31 262143) HT_.out ?_
        refine pU_ 18 32 (bm 31 524287) HT_.out ?_
        refine pU_ 19 33 (bm 31 1048575) HT_.out ?_
        refine pU_ 20 34 (bm 31 2097151) HT_.out ?_
        refine pU_ 21 35 (bm 31 4194303) HT_.out ?_
        refine pU_ 22 36 (bm 31 8388607) HT_.out ?_
        refine pU_ 23 37 (bm 31 16777215) HT_.out ?_
        refine pU_ 24 38 (bm 31 33554431) HT_.out ?_
        refine pU_ 25 39 (bm 31 67108863) HT_.out ?_
        refine pU_ 26 40 (bm 31 134217727) HT_.out ?_
        refine pU_ 27 41 (bm 31 268435455) HT_.out ?_
        refine pU_ 28 42 (bm 31 536870911) HT_.out ?_
        refine pV_ 29 43 (bm 31 1073741823) HT_.out ?_
        refine pV_ 30 44 (bm 31 2147483647) HT_.out ?_
        refine done_ (done_of HT_.out (by kernel_rfl)) ?_
        have p339 : 0 ≤ (0 : Int) := (by omega)
        have q339 : 0 < (t334.length : Int) := od
        obtain ⟨ad339,e339,hx339_0,hx339_1,hx339_2,hx339_3⟩ := at_T39 (Kd.R_reads' HO336.out).2.2 0 p339 q339
        obtain rfl : ad337 = ad339 := (by injection e339)
        have qi339 : (0 < t334.length) = True := eq_true (by omega)
        (try rw [show ((0 : Int)).toNat = 0 from rfl] at hx339_0)
        (try rw [show 0 * 4 = 0 from rfl] at hx339_0)
        (try rw [Addr.add_zero'] at hx339_0)
        (try rw [show ((0 : Int)).toNat = 0 from rfl] at hx339_1)
        (try rw [show 0 * 4 = 0 from rfl] at hx339_1)
        (try rw [Addr.add_zero'] at hx339_1)
        (try rw [show ((0 : Int)).toNat = 0 from rfl] at hx339_2)
        (try rw [show 0 * 4 = 0 from rfl] at hx339_2)
        (try rw [Addr.add_zero'] at hx339_2)
        (try rw [show ((0 : Int)).toNat = 0 from rfl] at hx339_3)
        (try rw [show 0 * 4 = 0 from rfl] at hx339_3)
        (try rw [Addr.add_zero'] at hx339_3)
        replace p339 := eq_true p339
        replace q339 := eq_true q339
        obtain ⟨hcz18_0,hcz18_1,hcz18_2,hcz18_3⟩ := cl4 BK333.out
        obtain ⟨hfz18_0,hfz18_1,hfz18_2,hfz18_3⟩ := fz4 BK333.out
        try go_wp2
        refine bodyPost_ret (results_ct rfl _ _ gb333 39 #[.int .i64 ((rd_T39 t334 0).f0),.int .i64 ((rd_T39 t334 0).f1),.int .i64 ((rd_T39 t334 0).f2),.string ((rd_T39 t334 0).f3)] (0,0) _ rfl (by (with_reducible repeat (first | refine blk_drewN ?_ _ | refine blk_drew ?_ | refine blk_alloc ?_ _)); apply blkp4; (with_reducible repeat (first | refine blk_drewN ?_ _ | refine blk_drew ?_ | refine blk_alloc ?_ _)); exact BK333.out) Tryd.underlying39 rfl (by kernel_rfl)) rfl ?_
        exact ⟨by first | rfl | (simp only [i64_w,i32_w] <;> rfl) | (simp [errW_none,errW_some] <;> rfl) | (simp [*,errW_none,errW_some] <;> rfl),bA⟩
       ·rw [if_neg c11] at H
        have c11b0 : (x8_1 == 2) = false := beq_eq_false_iff_ne.mpr c11
        have c11b1 : (x8_1 != 2) = true := bne_iff_ne.mpr c11
        obtain ⟨ji19,hji19⟩ : ∃ j_ : Int,(mn (wrap64 (x8_1 + 1)) 2) = j_ := ⟨_,rfl⟩
        replace H : (if 0 ≤ (ji19) then (if (ji19) < 3 then (if ((rd_T39 t334 0).f2) ≤ (at3 (ji19) a0_7 a0_8 a0_9) then (some ((rd_T39 t334 0).f0,(rd_T39 t334 0).f1,(rd_T39 t334 0).f2,(rd_T39 t334 0).f3,true)) else (impl_State_expired.l0 k1 a1 (wrap64 (x8_1 + 1)) a0_0 a0_1 l0_2 l0_3 a0_4 a0_5 a0_6 a0_7 a0_8 a0_9)) else (none)) else (none)) = some (r1,r2,r3,r4,r5) := by first | (rw [hji19] at H; exact H) | (simp only [hji19] at H ⊢; exact H)
        (try rw [hji19] at A6)
        (try rw [hji19] at A9)
        have hji19_ : (if 2 < (wrap64 (x8_1 + 1)) then 2 else (wrap64 (x8_1 + 1))) = ji19 := hji19
        by_cases c20 : 0 ≤ (ji19)
        ·rw [if_pos c20] at H
         have c20b0 : decide (0 ≤ (ji19)) = true := decide_eq_true c20
         clear c20
         by_cases c21 : (ji19) < 3
         ·rw [if_pos c21] at H
          have c21b0 : decide ((ji19) < 3) = true := decide_eq_true c21
          clear c21
          by_cases c22 : ((rd_T39 t334 0).f2) ≤ (at3 (ji19) a0_7 a0_8 a0_9)
          ·rw [if_pos c22] at H
           have c22b0 : decide (((rd_T39 t334 0).f2) ≤ (at3 (ji19) a0_7 a0_8 a0_9)) = true := decide_eq_true c22
           clear c22
           simp only [Option.some.injEq,Prod.mk.injEq] at H
           obtain ⟨rfl,rfl,rfl,rfl,rfl⟩ := H
           have hnb23 := NB332_333.out
           have hnc23 := NB333_332.out
           obtain ⟨hcz24_0,hcz24_1,hcz24_2,hcz24_3,hcz24_4,hcz24_5,hcz24_6,hcz24_7,hcz24_8,hcz24_9⟩ := cl10 BK332.out
           obtain ⟨hfz24_0,hfz24_1,hfz24_2,hfz24_3,hfz24_4,hfz24_5,hfz24_6,hfz24_7,hfz24_8,hfz24_9⟩ := fz10 BK332.out
           try go_wp2_with (first | ((with_reducible refine gate_callee (f:=30) rfl ?_); refine goesL_ (some 13) rfl rfl Tryd.func30 (by kernel_rfl) rfl #[.agg #[.int .i64 a0_0,.int .i64 a0_1,.slice A0_2 l0_2.length c0_2,.slice A0_3 l0_3.length c0_3,.int .i64 a0_4,.int .i64 a0_5,.int .i64 a0_6,.int .i64 a0_7,.int .i64 a0_8,.int .i64 a0_9],.int .i64 x8_1] rfl mA ?_; (with_reducible refine (impl_State_of.calls k1 a0_0 a0_1 _ _ l0_2 _ _ l0_3 a0_4 a0_5 a0_6 a0_7 a0_8 a0_9 x8_1 t334 _ ?side1 ?side2 ?side3 ?side4 A6.out).mono ?_); (case side1 => repeat (first | exact (Kd.C_below HR0_2.out HB.out) | (with_reducible refine Kd.C_alloc ?_ _) | (with_reducible refine Kd.C_drewN ?_ _) | (with_reducible refine Kd.C_drew ?_))); (case side2 => exact HC0_2.out); (case side3 => repeat (first | exact (Kd.C_below HR0_3.out HB.out) | (with_reducible refine Kd.C_alloc ?_ _) | (with_reducible refine Kd.C_drewN ?_ _) | (with_reducible refine Kd.C_drew ?_))); (case side4 => exact HC0_3.out); rintro e w25 ⟨v335,rfl,ho0,hb⟩; refine ⟨_,rfl,?_⟩; have n0_ := Aside0.mk (Kd.R_lower (Kd.R_newB ho0 (g:=gb333) (o:=.cells #[.int .i64 x334000_1,.int .i64 x334001_1,.int .i64 x334002_1,.string x334003_1] 39 (0,0)) (kA BK333.out)) (below_size bA)); have n1_ := Aside0.mk (blk_below (g:=gb332) (o:=.cells #[.int .i64 a0_0,.int .i64 a0_1,.slice A0_2 l0_2.length c0_2,.slice A0_3 l0_3.length c0_3,.int .i64 a0_4,.int .i64 a0_5,.int .i64 a0_6,.int .i64 a0_7,.int .i64 a0_8,.int .i64 a0_9] 32 (0,0)) (kA BK332.out) hb); have n2_ := Aside0.mk (blk_below (g:=gb333) (o:=.cells #[.int .i64 x334000_1,.int .i64 x334001_1,.int .i64 x334002_1,.string x334003_1] 39 (0,0)) (kA BK333.out) hb); have n3_ := Aside0.mk (below_step bA hb); clear BK332; clear BK333; clear HB; have HO336 := n0_; have BK332 := n1_; have BK333 := n2_; have HB := n3_; clear n0_ n1_ n2_ n3_; (try clear hb); (try clear hb2); (try clear hk); (try clear hi); (try clear ho0)))
           have n0_ := Aside0.mk (Kd.R_drew HO336.out)
           have n1_ := Aside0.mk (blk_drew BK332.out)
           have n2_ := Aside0.mk (blk_drew BK333.out)
           have n3_ := Aside0.mk (below_drew1 HB.out)
           clear HO336
           clear BK332
           clear BK333
           clear HB
           have HO336 := n0_
           have BK332 := n1_
           have BK333 := n2_
           have HB := n3_
           clear n0_ n1_ n2_ n3_
           obtain ⟨Ao27,co27,eo27⟩ := Kd.R_slice HO336.out
           (first | subst eo27 | (injection eo27 with f1_ f2_ f3_; have f4_ := f1_.symm; have f5_ := f3_.symm; clear f1_ f2_ f3_; subst f4_; subst f5_))
           have p337 : 0 ≤ (0 : Int) := (by omega)
           have q337 : 0 < (t334.length : Int) := od
           obtain ⟨ad337,e337,hx337_0,hx337_1,hx337_2,hx337_3⟩ := at_T39 (Kd.R_reads' HO336.out).2.2 0 p337 q337
           cases e337
           have qi337 : (0 < t334.length) = True := eq_true (by omega)
           (try rw [show ((0 : Int)).toNat = 0 from rfl] at hx337_0)
           (try rw [show 0 * 4 = 0 from rfl] at hx337_0)
           (try rw [Addr.add_zero'] at hx337_0)
           (try rw [show ((0 : Int)).toNat = 0 from rfl] at hx337_1)
           (try rw [show 0 * 4 = 0 from rfl] at hx337_1)
           (try rw [Addr.add_zero'] at hx337_1)
           (try rw [show ((0 : Int)).toNat = 0 from rfl] at hx337_2)
           (try rw [show 0 * 4 = 0 from rfl] at hx337_2)
           (try rw [Addr.add_zero'] at hx337_2)
           (try rw [show ((0 : Int)).toNat = 0 from rfl] at hx337_3)
           (try rw [show 0 * 4 = 0 from rfl] at hx337_3)
           (try rw [Addr.add_zero'] at hx337_3)
           replace p337 := eq_true p337
           replace q337 := eq_true q337
           have p340 : 0 ≤ (0 : Int) := (by omega)
           have q340 : 0 < (t334.length : Int) := od
           obtain ⟨ad340,e340,hx340_0,hx340_1,hx340_2,hx340_3⟩ := at_T39 (Kd.R_reads' HO336.out).2.2 0 p340 q340
           obtain rfl : ad337 = ad340 := (by injection e340)
           have qi340 : (0 < t334.length) = True := eq_true (by omega)
           (try rw [show ((0 : Int)).toNat = 0 from rfl] at hx340_0)
           (try rw [show 0 * 4 = 0 from rfl] at hx340_0)
           (try rw [Addr.add_zero'] at hx340_0)
           (try rw [show ((0 : Int)).toNat = 0 from rfl] at hx340_1)
           (try rw [show 0 * 4 = 0 from rfl] at hx340_1)
           (try rw [Addr.add_zero'] at hx340_1)
           (try rw [show ((0 : Int)).toNat = 0 from rfl] at hx340_2)
           (try rw [show 0 * 4 = 0 from rfl] at hx340_2)
           (try rw [Addr.add_zero'] at hx340_2)
           (try rw [show ((0 : Int)).toNat = 0 from rfl] at hx340_3)
           (try rw [show 0 * 4 = 0 from rfl] at hx340_3)
           (try rw [Addr.add_zero'] at hx340_3)
           replace p340 := eq_true p340
           replace q340 := eq_true q340
           refine start_ (n:=31) (S:=fun w' => w'.cell? ⟨gb332,0,none⟩ = some (.int .i64 a0_0) ∧ w'.cell? ⟨gb332,1,none⟩ = some (.int .i64 a0_1) ∧ w'.cell? ⟨gb332,2,none⟩ = some (.slice A0_2 l0_2.length c0_2) ∧ w'.cell? ⟨gb332,3,none⟩ = some (.slice A0_3 l0_3.length c0_3) ∧ w'.cell? ⟨gb332,4,none⟩ = some (.int .i64 a0_4) ∧ w'.cell? ⟨gb332,5,none⟩ = some (.int .i64 a0_5) ∧ w'.cell? ⟨gb332,6,none⟩ = some (.int .i64 a0_6) ∧ w'.cell? ⟨gb332,7,none⟩ = some (.int .i64 a0_7) ∧ w'.cell? ⟨gb332,8,none⟩ = some (.int .i64 a0_8) ∧ w'.cell? ⟨gb332,9,none⟩ = some (.int .i64 a0_9) ∧ w'.cell? ⟨gb332,7 + (ji19).toNat,none⟩ = some (.int .i64 (at3 (ji19) a0_7 a0_8 a0_9)) ∧ w'.cell? ad337 = some (.int .i64 ((rd_T39 t334 0).f0)) ∧ w'.cell? ⟨ad337.block,ad337.off + 1,none⟩ = some (.int .i64 ((rd_T39 t334 0).f1)) ∧ w'.cell? ⟨ad337.block,ad337.off + 2,none⟩ = some (.int .i64 ((rd_T39 t334 0).f2)) ∧ w'.cell? ⟨ad337.block,ad337.off + 3,none⟩ = some (.string ((rd_T39 t334 0).f3)) ∧ w'.cell? ad337 = some (.int .i64 ((rd_T39 t334 0).f0)) ∧ w'.cell? ⟨ad337.block,ad337.off + 1,none⟩ = some (.int .i64 ((rd_T39 t334 0).f1)) ∧ w'.cell? ⟨ad337.block,ad337.off + 2,none⟩ = some (.int .i64 ((rd_T39 t334 0).f2)) ∧ w'.cell? ⟨ad337.block,ad337.off + 3,none⟩ = some (.string ((rd_T39 t334 0).f3))) (ds := []) (bm 31 0) (by kernel_rfl) rfl rfl ⟨(blk_cell BK332.out 0).trans rfl,(blk_cell BK332.out 1).trans rfl,(blk_cell BK332.out 2).trans rfl,(blk_cell BK332.out 3).trans rfl,(blk_cell BK332.out 4).trans rfl,(blk_cell BK332.out 5).trans rfl,(blk_cell BK332.out 6).trans rfl,(blk_cell BK332.out 7).trans rfl,(blk_cell BK332.out 8).trans rfl,(blk_cell BK332.out 9).trans rfl,at3_cell (od) (od) ((blk_cell BK332.out 7).trans rfl) ((blk_cell BK332.out 8).trans rfl) ((blk_cell BK332.out 9).trans rfl),hx337_0,hx337_1,hx337_2,hx337_3,hx340_0,hx340_1,hx340_2,hx340_3⟩ (fun hHeld => ?_); refine with_tabW impl_State_expired.tab5 impl_State_expired.bits5 (fun HT_ HW_ => ?_)
           generalize w25.drew = w26 at HO336 BK332 BK333 HB hx337_0 hx337_1 hx337_2 hx337_3 hx340_0 hx340_1 hx340_2 hx340_3 hHeld ⊢
           refine pV_ 0 14 (bm 31 1) HT_.out ?_
           refine pV_ 1 15 (bm 31 3) HT_.out ?_
           refine pV_ 2 16 (bm 31 7) HT_.out ?_
           refine pV_ 3 17 (bm 31 15) HT_.out ?_
           refine pV_ 4 18 (bm 31 31) HT_.out ?_
           refine pV_ 5 19 (bm 31 63) HT_.out ?_
           refine pV_ 6 20 (bm 31 127) HT_.out ?_
           refine pV_ 8 22 (bm 31 383) HT_.out ?_
           refine pV_ 11 25 (bm 31 2431) HT_.out ?_
           refine take_ (i:=7) (N:=some 21) (v:=?_) (a':=?_) (bm 31 2559) rfl rfl (take_ofW HT_.out HW_.out (by kernel_rfl)) (fun _ _ _ h => h) (Or.inl ⟨by rfl,?_⟩) hHeld ?_ ?_
           rotate_left
           ·rintro w' ⟨s0,s1,s2,s3,s4,s5,s6,s7,s8,s9,s10,s11,s12,s13,s14,s15,s16,s17,s18⟩
            go_simp
            with_reducible rfl
           rotate_left
           ·simp only [Act.put,setIfInBounds_toArray,set_cons_zero,set_cons_succ,i64_w,i32_w]
            rfl
           refine one_ (i:=9) (N:=some 23) (bm 31 3071) rfl rfl (one_of HT_.out (by kernel_rfl)) (by decide) (fun K hK => ?_)
           refine goes_ Tryd.func62 (by kernel_rfl) rfl #[.int .i64 x8_1] (by rfl) rfl rfl mA ?_
           with_reducible refine (impl_keep.calls x8_1 t338 _ A9.out).mono ?_
           rintro e w28 ⟨rfl,hb⟩
           have HS11_ := (hb.cell (World.block_lt_of_cell? _ _ (hHeld.2.2.2.2.2.2.2.2.2.2.2.1))).trans (hHeld.2.2.2.2.2.2.2.2.2.2.2.1)
           have HS12_ := (hb.cell (World.block_lt_of_cell? _ _ (hHeld.2.2.2.2.2.2.2.2.2.2.2.2.1))).trans (hHeld.2.2.2.2.2.2.2.2.2.2.2.2.1)
           have HS13_ := (hb.cell (World.block_lt_of_cell? _ _ (hHeld.2.2.2.2.2.2.2.2.2.2.2.2.2.1))).trans (hHeld.2.2.2.2.2.2.2.2.2.2.2.2.2.1)
           have HS14_ := (hb.cell (World.block_lt_of_cell? _ _ (hHeld.2.2.2.2.2.2.2.2.2.2.2.2.2.2.1))).trans (hHeld.2.2.2.2.2.2.2.2.2.2.2.2.2.2.1)
           have HS15_ := (hb.cell (World.block_lt_of_cell? _ _ (hHeld.2.2.2.2.2.2.2.2.2.2.2.2.2.2.2.1))).trans (hHeld.2.2.2.2.2.2.2.2.2.2.2.2.2.2.2.1)
           have HS16_ := (hb.cell (World.block_lt_of_cell? _ _ (hHeld.2.2.2.2.2.2.2.2.2.2.2.2.2.2.2.2.1))).trans (hHeld.2.2.2.2.2.2.2.2.2.2.2.2.2.2.2.2.1)
           have HS17_ := (hb.cell (World.block_lt_of_cell? _ _ (hHeld.2.2.2.2.2.2.2.2.2.2.2.2.2.2.2.2.2.1))).trans (hHeld.2.2.2.2.2.2.2.2.2.2.2.2.2.2.2.2.2.1)
           have HS18_ := (hb.cell (World.block_lt_of_cell? _ _ (hHeld.2.2.2.2.2.2.2.2.2.2.2.2.2.2.2.2.2.2))).trans (hHeld.2.2.2.2.2.2.2.2.2.2.2.2.2.2.2.2.2.2)
           refine ⟨_,rfl,?_⟩
           have n0_ := Aside0.mk (Kd.R_below (rA HO336.out) hb)
           have n1_ := Aside0.mk (blk_below (g:=gb332) (o:=.cells #[.int .i64 a0_0,.int .i64 a0_1,.slice A0_2 l0_2.length c0_2,.slice A0_3 l0_3.length c0_3,.int .i64 a0_4,.int .i64 a0_5,.int .i64 a0_6,.int .i64 a0_7,.int .i64 a0_8,.int .i64 a0_9] 32 (0,0)) (kA BK332.out) hb)
           have n2_ := Aside0.mk (blk_below (g:=gb333) (o:=.cells #[.int .i64 x334000_1,.int .i64 x334001_1,.int .i64 x334002_1,.string x334003_1] 39 (0,0)) (kA BK333.out) hb)
           have n3_ := Aside0.mk (below_step bA hb)
           clear HO336
           clear BK332
           clear BK333
           clear HB
           have HO336 := n0_
           have BK332 := n1_
           have BK333 := n2_
           have HB := n3_
           clear n0_ n1_ n2_ n3_
           (try clear hb)
           (try clear hb2)
           (try clear hk)
           (try clear hi)
           have hia29 := ia_dyn (P:=Tryd.prog) (t:=24) (e:=3) Tryd.underlying24 (by kernel_rfl) (by kernel_rfl) gb332 7 (ji19) (od) (od)
           refine hK.out _ _ ⟨(blk_cell BK332.out 0).trans rfl,(blk_cell BK332.out 1).trans rfl,(blk_cell BK332.out 2).trans rfl,(blk_cell BK332.out 3).trans rfl,(blk_cell BK332.out 4).trans rfl,(blk_cell BK332.out 5).trans rfl,(blk_cell BK332.out 6).trans rfl,(blk_cell BK332.out 7).trans rfl,(blk_cell BK332.out 8).trans rfl,(blk_cell BK332.out 9).trans rfl,at3_cell (od) (od) ((blk_cell BK332.out 7).trans rfl) ((blk_cell BK332.out 8).trans rfl) ((blk_cell BK332.out 9).trans rfl),HS11_,HS12_,HS13_,HS14_,HS15_,HS16_,HS17_,HS18_⟩ (fun hHeld => ?_)
           clear hK K
           refine norm_ (a':=?_) ?_ ?_
           rotate_left
           ·show Act.put _ (some 23) _ = _
            simp only [Act.put,setIfInBounds_toArray,set_cons_zero,set_cons_succ,i64_w,i32_w]
            rfl
           refine pV_ 10 24 (bm 31 4095) HT_.out ?_
           refine pV_ 12 26 (bm 31 8191) HT_.out ?_
           refine pV_ 13 27 (bm 31 16383) HT_.out ?_
           refine pV_ 14 28 (bm 31 32767) HT_.out ?_
           refine pV_ 15 29 (bm 31 65535) HT_.out ?_
           refine pV_ 16 30 (bm 31 131071) HT_.out ?_
           refine pV_ 17 31 (bm 31 262143) HT_.out ?_
           refine pV_ 18 32 (bm 31 524287) HT_.out ?_
           refine pV_ 19 33 (bm 31 1048575) HT_.out ?_
           refine pV_ 20 34 (bm 31 2097151) HT_.out ?_
           refine pV_ 22 36 (bm 31 6291455) HT_.out ?_
           refine pV_ 23 37 (bm 31 14680063) HT_.out ?_
           refine pV_ 24 38 (bm 31 31457279) HT_.out ?_
           refine pV_ 25 39 (bm 31 65011711) HT_.out ?_
           refine pV_ 26 40 (bm 31 132120575) HT_.out ?_
           refine take_ (i:=21) (N:=some 35) (v:=?_) (a':=?_) (bm 31 134217727) rfl rfl (take_ofW HT_.out HW_.out (by kernel_rfl)) (fun _ _ _ h => h) (Or.inl ⟨by rfl,?_⟩) hHeld ?_ ?_
           rotate_left
           ·rintro w' ⟨s0,s1,s2,s3,s4,s5,s6,s7,s8,s9,s10,s11,s12,s13,s14,s15,s16,s17,s18⟩
            go_simp
            with_reducible rfl
           rotate_left
           ·simp only [Act.put,setIfInBounds_toArray,set_cons_zero,set_cons_succ,i64_w,i32_w]
            rfl
           refine take_ (i:=27) (N:=some 41) (v:=?_) (a':=?_) (bm 31 268435455) rfl rfl (take_ofW HT_.out HW_.out (by kernel_rfl)) (fun _ _ _ h => h) (Or.inl ⟨by rfl,?_⟩) hHeld ?_ ?_
           rotate_left
           ·rintro w' ⟨s0,s1,s2,s3,s4,s5,s6,s7,s8,s9,s10,s11,s12,s13,s14,s15,s16,s17,s18⟩
            go_simp
            with_reducible rfl
           rotate_left
           ·simp only [Act.put,setIfInBounds_toArray,set_cons_zero,set_cons_succ,i64_w,i32_w]
            rfl
           refine pV_ 28 42 (bm 31 536870911) HT_.out ?_
           refine pV_ 29 43 (bm 31 1073741823) HT_.out ?_
           refine pV_ 30 44 (bm 31 2147483647) HT_.out ?_
           refine done_ (done_of HT_.out (by kernel_rfl)) ?_
           have p341 : 0 ≤ (0 : Int) := (by omega)
           have q341 : 0 < (t334.length : Int) := od
           obtain ⟨ad341,e341,hx341_0,hx341_1,hx341_2,hx341_3⟩ := at_T39 (Kd.R_reads' HO336.out).2.2 0 p341 q341
           obtain rfl : ad337 = ad341 := (by injection e341)
           have qi341 : (0 < t334.length) = True := eq_true (by omega)
           (try rw [show ((0 : Int)).toNat = 0 from rfl] at hx341_0)
           (try rw [show 0 * 4 = 0 from rfl] at hx341_0)
           (try rw [Addr.add_zero'] at hx341_0)
           (try rw [show ((0 : Int)).toNat = 0 from rfl] at hx341_1)
           (try rw [show 0 * 4 = 0 from rfl] at hx341_1)
           (try rw [Addr.add_zero'] at hx341_1)
           (try rw [show ((0 : Int)).toNat = 0 from rfl] at hx341_2)
           (try rw [show 0 * 4 = 0 from rfl] at hx341_2)
           (try rw [Addr.add_zero'] at hx341_2)
           (try rw [show ((0 : Int)).toNat = 0 from rfl] at hx341_3)
           (try rw [show 0 * 4 = 0 from rfl] at hx341_3)
           (try rw [Addr.add_zero'] at hx341_3)
           replace p341 := eq_true p341
           replace q341 := eq_true q341
           obtain ⟨hcz30_0,hcz30_1,hcz30_2,hcz30_3⟩ := cl4 BK333.out
           obtain ⟨hfz30_0,hfz30_1,hfz30_2,hfz30_3⟩ := fz4 BK333.out
           try go_wp2
           refine bodyPost_ret (results_ct rfl _ _ gb333 39 #[.int .i64 ((rd_T39 t334 0).f0),.int .i64 ((rd_T39 t334 0).f1),.int .i64 ((rd_T39 t334 0).f2),.string ((rd_T39 t334 0).f3)] (0,0) _ rfl (by (with_reducible repeat (first | refine blk_drewN ?_ _ | refine blk_drew ?_ | refine blk_alloc ?_ _)); apply blkp4; (with_reducible repeat (first | refine blk_drewN ?_ _ | refine blk_drew ?_ | refine blk_alloc ?_ _)); exact BK333.out) Tryd.underlying39 rfl (by kernel_rfl)) rfl ?_
           exact ⟨by first | rfl | (simp only [i64_w,i32_w] <;> rfl) | (simp [errW_none,errW_some] <;> rfl) | (simp only [← hji19]; first | rfl | (simp [errW_none,errW_some] <;> rfl)) | (simp [*,errW_none,errW_some] <;> rfl),bA⟩
          ·rw [if_neg c22] at H
           have c22b0 : decide (((rd_T39 t334 0).f2) ≤ (at3 (ji19) a0_7 a0_8 a0_9)) = false := decide_eq_false c22
           clear c22
           have H' := Aside0.mk H
           clear H
           have hnb31 := NB332_333.out
           have hnc31 := NB333_332.out
           obtain ⟨hcz32_0,hcz32_1,hcz32_2,hcz32_3,hcz32_4,hcz32_5,hcz32_6,hcz32_7,hcz32_8,hcz32_9⟩ := cl10 BK332.out
           obtain ⟨hfz32_0,hfz32_1,hfz32_2,hfz32_3,hfz32_4,hfz32_5,hfz32_6,hfz32_7,hfz32_8,hfz32_9⟩ := fz10 BK332.out
           try go_wp2_with (first | ((with_reducible refine gate_callee (f:=30) rfl ?_); refine goesL_ (some 13) rfl rfl Tryd.func30 (by kernel_rfl) rfl #[.agg #[.int .i64 a0_0,.int .i64 a0_1,.slice A0_2 l0_2.length c0_2,.slice A0_3 l0_3.length c0_3,.int .i64 a0_4,.int .i64 a0_5,.int .i64 a0_6,.int .i64 a0_7,.int .i64 a0_8,.int .i64 a0_9],.int .i64 x8_1] rfl mA ?_; (with_reducible refine (impl_State_of.calls k1 a0_0 a0_1 _ _ l0_2 _ _ l0_3 a0_4 a0_5 a0_6 a0_7 a0_8 a0_9 x8_1 t334 _ ?side1 ?side2 ?side3 ?side4 A6.out).mono ?_); (case side1 => repeat (first | exact (Kd.C_below HR0_2.out HB.out) | (with_reducible refine Kd.C_alloc ?_ _) | (with_reducible refine Kd.C_drewN ?_ _) | (with_reducible refine Kd.C_drew ?_))); (case side2 => exact HC0_2.out); (case side3 => repeat (first | exact (Kd.C_below HR0_3.out HB.out) | (with_reducible refine Kd.C_alloc ?_ _) | (with_reducible refine Kd.C_drewN ?_ _) | (with_reducible refine Kd.C_drew ?_))); (case side4 => exact HC0_3.out); rintro e w33 ⟨v335,rfl,ho0,hb⟩; refine ⟨_,rfl,?_⟩; have n0_ := Aside0.mk (Kd.R_lower (Kd.R_newB ho0 (g:=gb333) (o:=.cells #[.int .i64 x334000_1,.int .i64 x334001_1,.int .i64 x334002_1,.string x334003_1] 39 (0,0)) (kA BK333.out)) (below_size bA)); have n1_ := Aside0.mk (blk_below (g:=gb332) (o:=.cells #[.int .i64 a0_0,.int .i64 a0_1,.slice A0_2 l0_2.length c0_2,.slice A0_3 l0_3.length c0_3,.int .i64 a0_4,.int .i64 a0_5,.int .i64 a0_6,.int .i64 a0_7,.int .i64 a0_8,.int .i64 a0_9] 32 (0,0)) (kA BK332.out) hb); have n2_ := Aside0.mk (blk_below (g:=gb333) (o:=.cells #[.int .i64 x334000_1,.int .i64 x334001_1,.int .i64 x334002_1,.string x334003_1] 39 (0,0)) (kA BK333.out) hb); have n3_ := Aside0.mk (below_step bA hb); clear BK332; clear BK333; clear HB; have HO336 := n0_; have BK332 := n1_; have BK333 := n2_; have HB := n3_; clear n0_ n1_ n2_ n3_; (try clear hb); (try clear hb2); (try clear hk); (try clear hi); (try clear ho0)))
           have n0_ := Aside0.mk (Kd.R_drew HO336.out)
           have n1_ := Aside0.mk (blk_drew BK332.out)
           have n2_ := Aside0.mk (blk_drew BK333.out)
           have n3_ := Aside0.mk (below_drew1 HB.out)
           clear HO336
           clear BK332
           clear BK333
           clear HB
           have HO336 := n0_
           have BK332 := n1_
           have BK333 := n2_
           have HB := n3_
           clear n0_ n1_ n2_ n3_
           obtain ⟨Ao35,co35,eo35⟩ := Kd.R_slice HO336.out
           (first | subst eo35 | (injection eo35 with f1_ f2_ f3_; have f4_ := f1_.symm; have f5_ := f3_.symm; clear f1_ f2_ f3_; subst f4_; subst f5_))
           have p337 : 0 ≤ (0 : Int) := (by omega)
           have q337 : 0 < (t334.length : Int) := od
           obtain ⟨ad337,e337,hx337_0,hx337_1,hx337_2,hx337_3⟩ := at_T39 (Kd.R_reads' HO336.out).2.2 0 p337 q337
           cases e337
           have qi337 : (0 < t334.length) = True := eq_true (by omega)
           (try rw [show ((0 : Int)).toNat = 0 from rfl] at hx337_0)
           (try rw [show 0 * 4 = 0 from rfl] at hx337_0)
           (try rw [Addr.add_zero'] at hx337_0)
           (try rw [show ((0 : Int)).toNat = 0 from rfl] at hx337_1)
           (try rw [show 0 * 4 = 0 from rfl] at hx337_1)
           (try rw [Addr.add_zero'] at hx337_1)
           (try rw [show ((0 : Int)).toNat = 0 from rfl] at hx337_2)
           (try rw [show 0 * 4 = 0 from rfl] at hx337_2)
           (try rw [Addr.add_zero'] at hx337_2)
           (try rw [show ((0 : Int)).toNat = 0 from rfl] at hx337_3)
           (try rw [show 0 * 4 = 0 from rfl] at hx337_3)
           (try rw [Addr.add_zero'] at hx337_3)
           replace p337 := eq_true p337
           replace q337 := eq_true q337
           have p340 : 0 ≤ (0 : Int) := (by omega)
           have q340 : 0 < (t334.length : Int) := od
           obtain ⟨ad340,e340,hx340_0,hx340_1,hx340_2,hx340_3⟩ := at_T39 (Kd.R_reads' HO336.out).2.2 0 p340 q340
           obtain rfl : ad337 = ad340 := (by injection e340)
           have qi340 : (0 < t334.length) = True := eq_true (by omega)
           (try rw [show ((0 : Int)).toNat = 0 from rfl] at hx340_0)
           (try rw [show 0 * 4 = 0 from rfl] at hx340_0)
           (try rw [Addr.add_zero'] at hx340_0)
           (try rw [show ((0 : Int)).toNat = 0 from rfl] at hx340_1)
           (try rw [show 0 * 4 = 0 from rfl] at hx340_1)
           (try rw [Addr.add_zero'] at hx340_1)
           (try rw [show ((0 : Int)).toNat = 0 from rfl] at hx340_2)
           (try rw [show 0 * 4 = 0 from rfl] at hx340_2)
           (try rw [Addr.add_zero'] at hx340_2)
           (try rw [show ((0 : Int)).toNat = 0 from rfl] at hx340_3)
           (try rw [show 0 * 4 = 0 from rfl] at hx340_3)
           (try rw [Addr.add_zero'] at hx340_3)
           replace p340 := eq_true p340
           replace q340 := eq_true q340
           refine start_ (n:=31) (S:=fun w' => w'.cell? ⟨gb332,0,none⟩ = some (.int .i64 a0_0) ∧ w'.cell? ⟨gb332,1,none⟩ = some (.int .i64 a0_1) ∧ w'.cell? ⟨gb332,2,none⟩ = some (.slice A0_2 l0_2.length c0_2) ∧ w'.cell? ⟨gb332,3,none⟩ = some (.slice A0_3 l0_3.length c0_3) ∧ w'.cell? ⟨gb332,4,none⟩ = some (.int .i64 a0_4) ∧ w'.cell? ⟨gb332,5,none⟩ = some (.int .i64 a0_5) ∧ w'.cell? ⟨gb332,6,none⟩ = some (.int .i64 a0_6) ∧ w'.cell? ⟨gb332,7,none⟩ = some (.int .i64 a0_7) ∧ w'.cell? ⟨gb332,8,none⟩ = some (.int .i64 a0_8) ∧ w'.cell? ⟨gb332,9,none⟩ = some (.int .i64 a0_9) ∧ w'.cell? ⟨gb332,7 + (ji19).toNat,none⟩ = some (.int .i64 (at3 (ji19) a0_7 a0_8 a0_9)) ∧ w'.cell? ad337 = some (.int .i64 ((rd_T39 t334 0).f0)) ∧ w'.cell? ⟨ad337.block,ad337.off + 1,none⟩ = some (.int .i64 ((rd_T39 t334 0).f1)) ∧ w'.cell? ⟨ad337.block,ad337.off + 2,none⟩ = some (.int .i64 ((rd_T39 t334 0).f2)) ∧ w'.cell? ⟨ad337.block,ad337.off + 3,none⟩ = some (.string ((rd_T39 t334 0).f3)) ∧ w'.cell? ad337 = some (.int .i64 ((rd_T39 t334 0).f0)) ∧ w'.cell? ⟨ad337.block,ad337.off + 1,none⟩ = some (.int .i64 ((rd_T39 t334 0).f1)) ∧ w'.cell? ⟨ad337.block,ad337.off + 2,none⟩ = some (.int .i64 ((rd_T39 t334 0).f2)) ∧ w'.cell? ⟨ad337.block,ad337.off + 3,none⟩ = some (.string ((rd_T39 t334 0).f3))) (ds := []) (bm 31 0) (by kernel_rfl) rfl rfl ⟨(blk_cell BK332.out 0).trans rfl,(blk_cell BK332.out 1).trans rfl,(blk_cell BK332.out 2).trans rfl,(blk_cell BK332.out 3).trans rfl,(blk_cell BK332.out 4).trans rfl,(blk_cell BK332.out 5).trans rfl,(blk_cell BK332.out 6).trans rfl,(blk_cell BK332.out 7).trans rfl,(blk_cell BK332.out 8).trans rfl,(blk_cell BK332.out 9).trans rfl,at3_cell (od) (od) ((blk_cell BK332.out 7).trans rfl) ((blk_cell BK332.out 8).trans rfl) ((blk_cell BK332.out 9).trans rfl),hx337_0,hx337_1,hx337_2,hx337_3,hx340_0,hx340_1,hx340_2,hx340_3⟩ (fun hHeld => ?_); refine with_tabW impl_State_expired.tab5 impl_State_expired.bits5 (fun HT_ HW_ => ?_)
           generalize w33.drew = w34 at HO336 BK332 BK333 HB hx337_0 hx337_1 hx337_2 hx337_3 hx340_0 hx340_1 hx340_2 hx340_3 hHeld ⊢
           refine pV_ 0 14 (bm 31 1) HT_.out ?_
           refine pV_ 1 15 (bm 31 3) HT_.out ?_
           refine pV_ 2 16 (bm 31 7) HT_.out ?_
           refine pV_ 3 17 (bm 31 15) HT_.out ?_
           refine pV_ 4 18 (bm 31 31) HT_.out ?_
           refine pV_ 5 19 (bm 31 63) HT_.out ?_
           refine pV_ 6 20 (bm 31 127) HT_.out ?_
           refine pV_ 8 22 (bm 31 383) HT_.out ?_
           refine pV_ 11 25 (bm 31 2431) HT_.out ?_
           refine take_ (i:=7) (N:=some 21) (v:=?_) (a':=?_) (bm 31 2559) rfl rfl (take_ofW HT_.out HW_.out (by kernel_rfl)) (fun _ _ _ h => h) (Or.inl ⟨by rfl,?_⟩) hHeld ?_ ?_
           rotate_left
           ·rintro w' ⟨s0,s1,s2,s3,s4,s5,s6,s7,s8,s9,s10,s11,s12,s13,s14,s15,s16,s17,s18⟩
            go_simp
            with_reducible rfl
           rotate_left
           ·simp only [Act.put,setIfInBounds_toArray,set_cons_zero,set_cons_succ,i64_w,i32_w]
            rfl
           refine one_ (i:=9) (N:=some 23) (bm 31 3071) rfl rfl (one_of HT_.out (by kernel_rfl)) (by decide) (fun K hK => ?_)
           refine goes_ Tryd.func62 (by kernel_rfl) rfl #[.int .i64 x8_1] (by rfl) rfl rfl mA ?_
           with_reducible refine (impl_keep.calls x8_1 t338 _ A9.out).mono ?_
           rintro e w36 ⟨rfl,hb⟩
           have HS11_ := (hb.cell (World.block_lt_of_cell? _ _ (hHeld.2.2.2.2.2.2.2.2.2.2.2.1))).trans (hHeld.2.2.2.2.2.2.2.2.2.2.2.1)
           have HS12_ := (hb.cell (World.block_lt_of_cell? _ _ (hHeld.2.2.2.2.2.2.2.2.2.2.2.2.1))).trans (hHeld.2.2.2.2.2.2.2.2.2.2.2.2.1)
           have HS13_ := (hb.cell (World.block_lt_of_cell? _ _ (hHeld.2.2.2.2.2.2.2.2.2.2.2.2.2.1))).trans (hHeld.2.2.2.2.2.2.2.2.2.2.2.2.2.1)
           have HS14_ := (hb.cell (World.block_lt_of_cell? _ _ (hHeld.2.2.2.2.2.2.2.2.2.2.2.2.2.2.1))).trans (hHeld.2.2.2.2.2.2.2.2.2.2.2.2.2.2.1)
           have HS15_ := (hb.cell (World.block_lt_of_cell? _ _ (hHeld.2.2.2.2.2.2.2.2.2.2.2.2.2.2.2.1))).trans (hHeld.2.2.2.2.2.2.2.2.2.2.2.2.2.2.2.1)
           have HS16_ := (hb.cell (World.block_lt_of_cell? _ _ (hHeld.2.2.2.2.2.2.2.2.2.2.2.2.2.2.2.2.1))).trans (hHeld.2.2.2.2.2.2.2.2.2.2.2.2.2.2.2.2.1)
           have HS17_ := (hb.cell (World.block_lt_of_cell? _ _ (hHeld.2.2.2.2.2.2.2.2.2.2.2.2.2.2.2.2.2.1))).trans (hHeld.2.2.2.2.2.2.2.2.2.2.2.2.2.2.2.2.2.1)
           have HS18_ := (hb.cell (World.block_lt_of_cell? _ _ (hHeld.2.2.2.2.2.2.2.2.2.2.2.2.2.2.2.2.2.2))).trans (hHeld.2.2.2.2.2.2.2.2.2.2.2.2.2.2.2.2.2.2)
           refine ⟨_,rfl,?_⟩
           have n0_ := Aside0.mk (Kd.R_below (rA HO336.out) hb)
           have n1_ := Aside0.mk (blk_below (g:=gb332) (o:=.cells #[.int .i64 a0_0,.int .i64 a0_1,.slice A0_2 l0_2.length c0_2,.slice A0_3 l0_3.length c0_3,.int .i64 a0_4,.int .i64 a0_5,.int .i64 a0_6,.int .i64 a0_7,.int .i64 a0_8,.int .i64 a0_9] 32 (0,0)) (kA BK332.out) hb)
           have n2_ := Aside0.mk (blk_below (g:=gb333) (o:=.cells #[.int .i64 x334000_1,.int .i64 x334001_1,.int .i64 x334002_1,.string x334003_1] 39 (0,0)) (kA BK333.out) hb)
           have n3_ := Aside0.mk (below_step bA hb)
           clear HO336
           clear BK332
           clear BK333
           clear HB
           have HO336 := n0_
           have BK332 := n1_
           have BK333 := n2_
           have HB := n3_
           clear n0_ n1_ n2_ n3_
           (try clear hb)
           (try clear hb2)
           (try clear hk)
           (try clear hi)
           have hia37 := ia_dyn (P:=Tryd.prog) (t:=24) (e:=3) Tryd.underlying24 (by kernel_rfl) (by kernel_rfl) gb332 7 (ji19) (od) (od)
           refine hK.out _ _ ⟨(blk_cell BK332.out 0).trans rfl,(blk_cell BK332.out 1).trans rfl,(blk_cell BK332.out 2).trans rfl,(blk_cell BK332.out 3).trans rfl,(blk_cell BK332.out 4).trans rfl,(blk_cell BK332.out 5).trans rfl,(blk_cell BK332.out 6).trans rfl,(blk_cell BK332.out 7).trans rfl,(blk_cell BK332.out 8).trans rfl,(blk_cell BK332.out 9).trans rfl,at3_cell (od) (od) ((blk_cell BK332.out 7).trans rfl) ((blk_cell BK332.out 8).trans rfl) ((blk_cell BK332.out 9).trans rfl),HS11_,HS12_,HS13_,HS14_,HS15_,HS16_,HS17_,HS18_⟩ (fun hHeld => ?_)
           clear hK K
           refine norm_ (a':=?_) ?_ ?_
           rotate_left
           ·show Act.put _ (some 23) _ = _
            simp only [Act.put,setIfInBounds_toArray,set_cons_zero,set_cons_succ,i64_w,i32_w]
            rfl
           refine pV_ 10 24 (bm 31 4095) HT_.out ?_
           refine pV_ 12 26 (bm 31 8191) HT_.out ?_
           refine pV_ 13 27 (bm 31 16383) HT_.out ?_
           refine pV_ 14 28 (bm 31 32767) HT_.out ?_
           refine pV_ 15 29 (bm 31 65535) HT_.out ?_
           refine pV_ 16 30 (bm 31 131071) HT_.out ?_
           refine pV_ 17 31 (bm 31 262143) HT_.out ?_
           refine pV_ 18 32 (bm 31 524287) HT_.out ?_
           refine pV_ 19 33 (bm 31 1048575) HT_.out ?_
           refine pV_ 20 34 (bm 31 2097151) HT_.out ?_
           refine pV_ 22 36 (bm 31 6291455) HT_.out ?_
           refine pV_ 23 37 (bm 31 14680063) HT_.out ?_
           refine pV_ 24 38 (bm 31 31457279) HT_.out ?_
           refine pV_ 25 39 (bm 31 65011711) HT_.out ?_
           refine pV_ 26 40 (bm 31 132120575) HT_.out ?_
           refine take_ (i:=21) (N:=some 35) (v:=?_) (a':=?_) (bm 31 134217727) rfl rfl (take_ofW HT_.out HW_.out (by kernel_rfl)) (fun _ _ _ h => h) (Or.inl ⟨by rfl,?_⟩) hHeld ?_ ?_
           rotate_left
           ·rintro w' ⟨s0,s1,s2,s3,s4,s5,s6,s7,s8,s9,s10,s11,s12,s13,s14,s15,s16,s17,s18⟩
            go_simp
            with_reducible rfl
           rotate_left
           ·simp only [Act.put,setIfInBounds_toArray,set_cons_zero,set_cons_succ,i64_w,i32_w]
            rfl
           refine take_ (i:=27) (N:=some 41) (v:=?_) (a':=?_) (bm 31 268435455) rfl rfl (take_ofW HT_.out HW_.out (by kernel_rfl)) (fun _ _ _ h => h) (Or.inl ⟨by rfl,?_⟩) hHeld ?_ ?_
           rotate_left
           ·rintro w' ⟨s0,s1,s2,s3,s4,s5,s6,s7,s8,s9,s10,s11,s12,s13,s14,s15,s16,s17,s18⟩
            go_simp
            with_reducible rfl
           rotate_left
           ·simp only [Act.put,setIfInBounds_toArray,set_cons_zero,set_cons_succ,i64_w,i32_w]
            rfl
           refine pV_ 28 42 (bm 31 536870911) HT_.out ?_
           refine pV_ 29 43 (bm 31 1073741823) HT_.out ?_
           refine pV_ 30 44 (bm 31 2147483647) HT_.out ?_
           refine done_ (done_of HT_.out (by kernel_rfl)) ?_
           try go_wp2
           go_roundg k1
           case measure => have := HK1.out; omega
           case rel => exact ⟨(wrap64 (x8_1 + 1)),(x334000_1),(x334001_1),(x334002_1),(x334003_1),(by first | rfl | (simp; done) | (simp [*]; done)),H',⟨by have := HK1.out; omega⟩,⟨kA BK332.out⟩,⟨kA BK333.out⟩,⟨bA⟩⟩
         ·rw [if_neg c21] at H
          exact absurd H (by simp)
        ·rw [if_neg c20] at H
         exact absurd H (by simp)
      ·rw [if_neg c10] at H
       have c10b0 : decide ((wrap64 (((rd_T39 t334 0).f2) + t338)) ≤ a1) = false := decide_eq_false c10
       clear c10
       have H' := Aside0.mk H
       clear H
       have hnb38 := NB332_333.out
       have hnc38 := NB333_332.out
       obtain ⟨hcz39_0,hcz39_1,hcz39_2,hcz39_3,hcz39_4,hcz39_5,hcz39_6,hcz39_7,hcz39_8,hcz39_9⟩ := cl10 BK332.out
       obtain ⟨hfz39_0,hfz39_1,hfz39_2,hfz39_3,hfz39_4,hfz39_5,hfz39_6,hfz39_7,hfz39_8,hfz39_9⟩ := fz10 BK332.out
       try go_wp2_with (first | ((with_reducible refine gate_callee (f:=30) rfl ?_); refine goesL_ (some 13) rfl rfl Tryd.func30 (by kernel_rfl) rfl #[.agg #[.int .i64 a0_0,.int .i64 a0_1,.slice A0_2 l0_2.length c0_2,.slice A0_3 l0_3.length c0_3,.int .i64 a0_4,.int .i64 a0_5,.int .i64 a0_6,.int .i64 a0_7,.int .i64 a0_8,.int .i64 a0_9],.int .i64 x8_1] rfl mA ?_; (with_reducible refine (impl_State_of.calls k1 a0_0 a0_1 _ _ l0_2 _ _ l0_3 a0_4 a0_5 a0_6 a0_7 a0_8 a0_9 x8_1 t334 _ ?side1 ?side2 ?side3 ?side4 A6.out).mono ?_); (case side1 => repeat (first | exact (Kd.C_below HR0_2.out HB.out) | (with_reducible refine Kd.C_alloc ?_ _) | (with_reducible refine Kd.C_drewN ?_ _) | (with_reducible refine Kd.C_drew ?_))); (case side2 => exact HC0_2.out); (case side3 => repeat (first | exact (Kd.C_below HR0_3.out HB.out) | (with_reducible refine Kd.C_alloc ?_ _) | (with_reducible refine Kd.C_drewN ?_ _) | (with_reducible refine Kd.C_drew ?_))); (case side4 => exact HC0_3.out); rintro e w40 ⟨v335,rfl,ho0,hb⟩; refine ⟨_,rfl,?_⟩; have n0_ := Aside0.mk (Kd.R_lower (Kd.R_newB ho0 (g:=gb333) (o:=.cells #[.int .i64 x334000_1,.int .i64 x334001_1,.int .i64 x334002_1,.string x334003_1] 39 (0,0)) (kA BK333.out)) (below_size bA)); have n1_ := Aside0.mk (blk_below (g:=gb332) (o:=.cells #[.int .i64 a0_0,.int .i64 a0_1,.slice A0_2 l0_2.length c0_2,.slice A0_3 l0_3.length c0_3,.int .i64 a0_4,.int .i64 a0_5,.int .i64 a0_6,.int .i64 a0_7,.int .i64 a0_8,.int .i64 a0_9] 32 (0,0)) (kA BK332.out) hb); have n2_ := Aside0.mk (blk_below (g:=gb333) (o:=.cells #[.int .i64 x334000_1,.int .i64 x334001_1,.int .i64 x334002_1,.string x334003_1] 39 (0,0)) (kA BK333.out) hb); have n3_ := Aside0.mk (below_step bA hb); clear BK332; clear BK333; clear HB; have HO336 := n0_; have BK332 := n1_; have BK333 := n2_; have HB := n3_; clear n0_ n1_ n2_ n3_; (try clear hb); (try clear hb2); (try clear hk); (try clear hi); (try clear ho0)))
       have n0_ := Aside0.mk (Kd.R_drew HO336.out)
       have n1_ := Aside0.mk (blk_drew BK332.out)
       have n2_ := Aside0.mk (blk_drew BK333.out)
       have n3_ := Aside0.mk (below_drew1 HB.out)
       clear HO336
       clear BK332
       clear BK333
       clear HB
       have HO336 := n0_
       have BK332 := n1_
       have BK333 := n2_
       have HB := n3_
       clear n0_ n1_ n2_ n3_
       obtain ⟨Ao42,co42,eo42⟩ := Kd.R_slice HO336.out
       (first | subst eo42 | (injection eo42 with f1_ f2_ f3_; have f4_ := f1_.symm; have f5_ := f3_.symm; clear f1_ f2_ f3_; subst f4_; subst f5_))
       have p337 : 0 ≤ (0 : Int) := (by omega)
       have q337 : 0 < (t334.length : Int) := od
       obtain ⟨ad337,e337,hx337_0,hx337_1,hx337_2,hx337_3⟩ := at_T39 (Kd.R_reads' HO336.out).2.2 0 p337 q337
       cases e337
       have qi337 : (0 < t334.length) = True := eq_true (by omega)
       (try rw [show ((0 : Int)).toNat = 0 from rfl] at hx337_0)
       (try rw [show 0 * 4 = 0 from rfl] at hx337_0)
       (try rw [Addr.add_zero'] at hx337_0)
       (try rw [show ((0 : Int)).toNat = 0 from rfl] at hx337_1)
       (try rw [show 0 * 4 = 0 from rfl] at hx337_1)
       (try rw [Addr.add_zero'] at hx337_1)
       (try rw [show ((0 : Int)).toNat = 0 from rfl] at hx337_2)
       (try rw [show 0 * 4 = 0 from rfl] at hx337_2)
       (try rw [Addr.add_zero'] at hx337_2)
       (try rw [show ((0 : Int)).toNat = 0 from rfl] at hx337_3)
       (try rw [show 0 * 4 = 0 from rfl] at hx337_3)
       (try rw [Addr.add_zero'] at hx337_3)
       replace p337 := eq_true p337
       replace q337 := eq_true q337
       refine start_ (n:=31) (S:=fun w' => w'.cell? ad337 = some (.int .i64 ((rd_T39 t334 0).f0)) ∧ w'.cell? ⟨ad337.block,ad337.off + 1,none⟩ = some (.int .i64 ((rd_T39 t334 0).f1)) ∧ w'.cell? ⟨ad337.block,ad337.off + 2,none⟩ = some (.int .i64 ((rd_T39 t334 0).f2)) ∧ w'.cell? ⟨ad337.block,ad337.off + 3,none⟩ = some (.string ((rd_T39 t334 0).f3))) (ds := []) (bm 31 0) (by kernel_rfl) rfl rfl ⟨hx337_0,hx337_1,hx337_2,hx337_3⟩ (fun hHeld => ?_); refine with_tabW impl_State_expired.tab5 impl_State_expired.bits5 (fun HT_ HW_ => ?_)
       generalize w40.drew = w41 at HO336 BK332 BK333 HB hx337_0 hx337_1 hx337_2 hx337_3 hHeld ⊢
       refine pV_ 0 14 (bm 31 1) HT_.out ?_
       refine pV_ 1 15 (bm 31 3) HT_.out ?_
       refine pV_ 2 16 (bm 31 7) HT_.out ?_
       refine pV_ 3 17 (bm 31 15) HT_.out ?_
       refine pV_ 4 18 (bm 31 31) HT_.out ?_
       refine pV_ 5 19 (bm 31 63) HT_.out ?_
       refine pV_ 6 20 (bm 31 127) HT_.out ?_
       refine pV_ 8 22 (bm 31 383) HT_.out ?_
       refine pV_ 11 25 (bm 31 2431) HT_.out ?_
       refine take_ (i:=7) (N:=some 21) (v:=?_) (a':=?_) (bm 31 2559) rfl rfl (take_ofW HT_.out HW_.out (by kernel_rfl)) (fun _ _ _ h => h) (Or.inl ⟨by rfl,?_⟩) hHeld ?_ ?_
       rotate_left
       ·rintro w' ⟨s0,s1,s2,s3⟩
        go_simp
        with_reducible rfl
       rotate_left
       ·simp only [Act.put,setIfInBounds_toArray,set_cons_zero,set_cons_succ,i64_w,i32_w]
        rfl
       refine one_ (i:=9) (N:=some 23) (bm 31 3071) rfl rfl (one_of HT_.out (by kernel_rfl)) (by decide) (fun K hK => ?_)
       refine goes_ Tryd.func62 (by kernel_rfl) rfl #[.int .i64 x8_1] (by rfl) rfl rfl mA ?_
       with_reducible refine (impl_keep.calls x8_1 t338 _ A9.out).mono ?_
       rintro e w43 ⟨rfl,hb⟩
       have HS0_ := (hb.cell (World.block_lt_of_cell? _ _ (hHeld.1))).trans (hHeld.1)
       have HS1_ := (hb.cell (World.block_lt_of_cell? _ _ (hHeld.2.1))).trans (hHeld.2.1)
       have HS2_ := (hb.cell (World.block_lt_of_cell? _ _ (hHeld.2.2.1))).trans (hHeld.2.2.1)
       have HS3_ := (hb.cell (World.block_lt_of_cell? _ _ (hHeld.2.2.2))).trans (hHeld.2.2.2)
       refine ⟨_,rfl,?_⟩
       have n0_ := Aside0.mk (Kd.R_below (rA HO336.out) hb)
       have n1_ := Aside0.mk (blk_below (g:=gb332) (o:=.cells #[.int .i64 a0_0,.int .i64 a0_1,.slice A0_2 l0_2.length c0_2,.slice A0_3 l0_3.length c0_3,.int .i64 a0_4,.int .i64 a0_5,.int .i64 a0_6,.int .i64 a0_7,.int .i64 a0_8,.int .i64 a0_9] 32 (0,0)) (kA BK332.out) hb)
       have n2_ := Aside0.mk (blk_below (g:=gb333) (o:=.cells #[.int .i64 x334000_1,.int .i64 x334001_1,.int .i64 x334002_1,.string x334003_1] 39 (0,0)) (kA BK333.out) hb)
       have n3_ := Aside0.mk (below_step bA hb)
       clear HO336
       clear BK332
       clear BK333
       clear HB
       have HO336 := n0_
       have BK332 := n1_
       have BK333 := n2_
       have HB := n3_
       clear n0_ n1_ n2_ n3_
       (try clear hb)
       (try clear hb2)
       (try clear hk)
       (try clear hi)
       refine hK.out _ _ ⟨HS0_,HS1_,HS2_,HS3_⟩ (fun hHeld => ?_)
       clear hK K
       refine norm_ (a':=?_) ?_ ?_
       rotate_left
       ·show Act.put _ (some 23) _ = _
        simp only [Act.put,setIfInBounds_toArray,set_cons_zero,set_cons_succ,i64_w,i32_w]
        rfl
       refine pV_ 10 24 (bm 31 4095) HT_.out ?_
       refine pV_ 12 26 (bm 31 8191) HT_.out ?_
       refine pV_ 13 27 (bm 31 16383) HT_.out ?_
       refine pV_ 14 28 (bm 31 32767) HT_.out ?_
       refine pU_ 15 29 (bm 31 65535) HT_.out ?_
       refine pU_ 16 30 (bm 31 131071) HT_.out ?_
       refine pU_ 17 31 (bm 31 262143) HT_.out ?_
       refine pU_ 18 32 (bm 31 524287) HT_.out ?_
       refine pU_ 19 33 (bm 31 1048575) HT_.out ?_
       refine pU_ 20 34 (bm 31 2097151) HT_.out ?_
       refine pU_ 21 35 (bm 31 4194303) HT_.out ?_
       refine pU_ 22 36 (bm 31 8388607) HT_.out ?_
       refine pU_ 23 37 (bm 31 16777215) HT_.out ?_
       refine pU_ 24 38 (bm 31 33554431) HT_.out ?_
       refine pU_ 25 39 (bm 31 67108863) HT_.out ?_
       refine pU_ 26 40 (bm 31 134217727) HT_.out ?_
       refine pU_ 27 41 (bm 31 268435455) HT_.out ?_
       refine pU_ 28 42 (bm 31 536870911) HT_.out ?_
       refine pU_ 29 43 (bm 31 1073741823) HT_.out ?_
       refine pV_ 30 44 (bm 31 2147483647) HT_.out ?_
       refine done_ (done_of HT_.out (by kernel_rfl)) ?_
       try go_wp2
       go_roundg k1
       case measure => have := HK1.out; omega
       case rel => exact ⟨(wrap64 (x8_1 + 1)),(x334000_1),(x334001_1),(x334002_1),(x334003_1),(by first | rfl | (simp; done) | (simp [*]; done)),H',⟨by have := HK1.out; omega⟩,⟨kA BK332.out⟩,⟨kA BK333.out⟩,⟨bA⟩⟩
     ·rw [if_neg c8] at H
      exact absurd H (by simp)
    ·rw [if_neg c7] at H
     have c7b0 : decide (0 < (t334.length : Int)) = false := decide_eq_false c7
     have c7b1 : decide (0 < t334.length) = false := decide_eq_false (by omega)
     clear c7
     have H' := Aside0.mk H
     clear H
     have hnb44 := NB332_333.out
     have hnc44 := NB333_332.out
     obtain ⟨hcz45_0,hcz45_1,hcz45_2,hcz45_3,hcz45_4,hcz45_5,hcz45_6,hcz45_7,hcz45_8,hcz45_9⟩ := cl10 BK332.out
     obtain ⟨hfz45_0,hfz45_1,hfz45_2,hfz45_3,hfz45_4,hfz45_5,hfz45_6,hfz45_7,hfz45_8,hfz45_9⟩ := fz10 BK332.out
     try go_wp2_with (first | ((with_reducible refine gate_callee (f:=30) rfl ?_); refine goesL_ (some 13) rfl rfl Tryd.func30 (by kernel_rfl) rfl #[.agg #[.int .i64 a0_0,.int .i64 a0_1,.slice A0_2 l0_2.length c0_2,.slice A0_3 l0_3.length c0_3,.int .i64 a0_4,.int .i64 a0_5,.int .i64 a0_6,.int .i64 a0_7,.int .i64 a0_8,.int .i64 a0_9],.int .i64 x8_1] rfl mA ?_; (with_reducible refine (impl_State_of.calls k1 a0_0 a0_1 _ _ l0_2 _ _ l0_3 a0_4 a0_5 a0_6 a0_7 a0_8 a0_9 x8_1 t334 _ ?side1 ?side2 ?side3 ?side4 A6.out).mono ?_); (case side1 => repeat (first | exact (Kd.C_below HR0_2.out HB.out) | (with_reducible refine Kd.C_alloc ?_ _) | (with_reducible refine Kd.C_drewN ?_ _) | (with_reducible refine Kd.C_drew ?_))); (case side2 => exact HC0_2.out); (case side3 => repeat (first | exact (Kd.C_below HR0_3.out HB.out) | (with_reducible refine Kd.C_alloc ?_ _) | (with_reducible refine Kd.C_drewN ?_ _) | (with_reducible refine Kd.C_drew ?_))); (case side4 => exact HC0_3.out); rintro e w46 ⟨v335,rfl,ho0,hb⟩; refine ⟨_,rfl,?_⟩; have n0_ := Aside0.mk (Kd.R_lower (Kd.R_newB ho0 (g:=gb333) (o:=.cells #[.int .i64 x334000_1,.int .i64 x334001_1,.int .i64 x334002_1,.string x334003_1] 39 (0,0)) (kA BK333.out)) (below_size bA)); have n1_ := Aside0.mk (blk_below (g:=gb332) (o:=.cells #[.int .i64 a0_0,.int .i64 a0_1,.slice A0_2 l0_2.length c0_2,.slice A0_3 l0_3.length c0_3,.int .i64 a0_4,.int .i64 a0_5,.int .i64 a0_6,.int .i64 a0_7,.int .i64 a0_8,.int .i64 a0_9] 32 (0,0)) (kA BK332.out) hb); have n2_ := Aside0.mk (blk_below (g:=gb333) (o:=.cells #[.int .i64 x334000_1,.int .i64 x334001_1,.int .i64 x334002_1,.string x334003_1] 39 (0,0)) (kA BK333.out) hb); have n3_ := Aside0.mk (below_step bA hb); clear BK332; clear BK333; clear HB; have HO336 := n0_; have BK332 := n1_; have BK333 := n2_; have HB := n3_; clear n0_ n1_ n2_ n3_; (try clear hb); (try clear hb2); (try clear hk); (try clear hi); (try clear ho0)))
     have n0_ := Aside0.mk (Kd.R_drew HO336.out)
     have n1_ := Aside0.mk (blk_drew BK332.out)
     have n2_ := Aside0.mk (blk_drew BK333.out)
     have n3_ := Aside0.mk (below_drew1 HB.out)
     clear HO336
     clear BK332
     clear BK333
     clear HB
     have HO336 := n0_
     have BK332 := n1_
     have BK333 := n2_
     have HB := n3_
     clear n0_ n1_ n2_ n3_
     obtain ⟨Ao48,co48,eo48⟩ := Kd.R_slice HO336.out
     (first | subst eo48 | (injection eo48 with f1_ f2_ f3_; have f4_ := f1_.symm; have f5_ := f3_.symm; clear f1_ f2_ f3_; subst f4_; subst f5_))
     refine start_ (n:=31) (S:=fun w' => True) (ds := []) (bm 31 0) (by kernel_rfl) rfl rfl trivial (fun hHeld => ?_); refine with_tabW impl_State_expired.tab5 impl_State_expired.bits5 (fun HT_ HW_ => ?_)
     generalize w46.drew = w47 at HO336 BK332 BK333 HB hHeld ⊢
     refine pV_ 0 14 (bm 31 1) HT_.out ?_
     refine pV_ 1 15 (bm 31 3) HT_.out ?_
     refine pV_ 2 16 (bm 31 7) HT_.out ?_
     refine pV_ 3 17 (bm 31 15) HT_.out ?_
     refine pU_ 4 18 (bm 31 31) HT_.out ?_
     refine pU_ 5 19 (bm 31 63) HT_.out ?_
     refine pU_ 6 20 (bm 31 127) HT_.out ?_
     refine pU_ 7 21 (bm 31 255) HT_.out ?_
     refine pU_ 8 22 (bm 31 511) HT_.out ?_
     refine pU_ 9 23 (bm 31 1023) HT_.out ?_
     refine pU_ 10 24 (bm 31 2047) HT_.out ?_
     refine pU_ 11 25 (bm 31 4095) HT_.out ?_
     refine pU_ 12 26 (bm 31 8191) HT_.out ?_
     refine pV_ 13 27 (bm 31 16383) HT_.out ?_
     refine pV_ 14 28 (bm 31 32767) HT_.out ?_
     refine pU_ 15 29 (bm 31 65535) HT_.out ?_
     refine pU_ 16 30 (bm 31 131071) HT_.out ?_
     refine pU_ 17 31 (bm 31 262143) HT_.out ?_
     refine pU_ 18 32 (bm 31 524287) HT_.out ?_
     refine pU_ 19 33 (bm 31 1048575) HT_.out ?_
     refine pU_ 20 34 (bm 31 2097151) HT_.out ?_
     refine pU_ 21 35 (bm 31 4194303) HT_.out ?_
     refine pU_ 22 36 (bm 31 8388607) HT_.out ?_
     refine pU_ 23 37 (bm 31 16777215) HT_.out ?_
     refine pU_ 24 38 (bm 31 33554431) HT_.out ?_
     refine pU_ 25 39 (bm 31 67108863) HT_.out ?_
     refine pU_ 26 40 (bm 31 134217727) HT_.out ?_
     refine pU_ 27 41 (bm 31 268435455) HT_.out ?_
     refine pU_ 28 42 (bm 31 536870911) HT_.out ?_
     refine pU_ 29 43 (bm 31 1073741823) HT_.out ?_
     refine pV_ 30 44 (bm 31 2147483647) HT_.out ?_
     refine done_ (done_of HT_.out (by kernel_rfl)) ?_
     try go_wp2
     go_roundg k1
     case measure => have := HK1.out; omega
     case rel => exact ⟨(wrap64 (x8_1 + 1)),(x334000_1),(x334001_1),(x334002_1),(x334003_1),(by first | rfl | (simp; done) | (simp [*]; done)),H',⟨by have := HK1.out; omega⟩,⟨kA BK332.out⟩,⟨kA BK333.out⟩,⟨bA⟩⟩
   ·rw [if_neg c5] at H
    have c5b0 : decide (x8_1 < 3) = false := decide_eq_false c5
    clear c5
    simp only [Option.some.injEq,Prod.mk.injEq] at H
    obtain ⟨rfl,rfl,rfl,rfl,rfl⟩ := H
    have hnb49 := NB333_332.out
    have hnc49 := NB332_333.out
    obtain ⟨hcz50_0,hcz50_1,hcz50_2,hcz50_3⟩ := cl4 BK333.out
    obtain ⟨hfz50_0,hfz50_1,hfz50_2,hfz50_3⟩ := fz4 BK333.out
    go_wp2
    refine bodyPost_ret (results_ct rfl _ _ gb333 39 #[.int .i64 0,.int .i64 0,.int .i64 0,.string (⟨#[]⟩ : ByteArray)] (0,0) _ rfl (by (with_reducible repeat (first | refine blk_drewN ?_ _ | refine blk_drew ?_ | refine blk_alloc ?_ _)); apply blkp4; (with_reducible repeat (first | refine blk_drewN ?_ _ | refine blk_drew ?_ | refine blk_alloc ?_ _)); exact BK333.out) Tryd.underlying39 rfl (by kernel_rfl)) rfl ?_
    exact ⟨by first | rfl | (simp only [i64_w,i32_w] <;> rfl) | (simp [errW_none,errW_some] <;> rfl) | (simp [*,errW_none,errW_some] <;> rfl),bA⟩

end Go.Proofs.YtfondhlknkhmmaaDoor.XFnExactExpiredEntry
