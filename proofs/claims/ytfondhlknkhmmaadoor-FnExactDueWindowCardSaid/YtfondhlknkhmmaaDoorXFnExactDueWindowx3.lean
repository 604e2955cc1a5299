-- Printed by this session's own program wip/tools/xprint.py, which widens the kit's print. Not trusted: Lean checks it.
import Derived.Test.YtfondhlknkhmmaaDoorXFnExactDueWindowx0
import Derived.Test.YtfondhlknkhmmaaDoorXFnExactDueWindowx2
namespace Go.Proofs.YtfondhlknkhmmaaDoor.XFnExactDueWindow
open Go.RowKit Go.Proofs.YtfondhlknkhmmaaDoorW.PrintWords Go.Proofs.YtfondhlknkhmmaaDoorW.PrintLast Go.Proofs.YtfondhlknkhmmaaDoorW.PrintMore
attribute [local go_sem] max2_int min2_int max_two min_two max_three min_three max_four min_four   -- for this text's walks alone
set_option linter.unusedVariables false
set_option linter.unusedSimpArgs false

/-! ### laws_eqState: function 10 -/
def laws_eqState.f (k : Nat) (a0_0 : Int) (a0_1 : Int) (l0_2 : List (S39)) (l0_3 : List (S55)) (a0_4 : Int) (a0_5 : Int) (a0_6 : Int) (a0_7 : Int) (a0_8 : Int) (a0_9 : Int) (a1_0 : Int) (a1_1 : Int) (l1_2 : List (S39)) (l1_3 : List (S55)) (a1_4 : Int) (a1_5 : Int) (a1_6 : Int) (a1_7 : Int) (a1_8 : Int) (a1_9 : Int) : Option (Bool) := if a0_0 = a1_0 then (if a0_1 = a1_1 then ((laws_eqEntryS.f k l0_2 l1_2).bind fun t159 => (if t159 = true then ((laws_eqTombS.f k l0_3 l1_3).bind fun t160 => (if t160 = true then ((laws_eqIntA3.f a0_4 a0_5 a0_6 a1_4 a1_5 a1_6).bind fun t161 => (if t161 = true then ((laws_eqIntA3.f a0_7 a0_8 a0_9 a1_7 a1_8 a1_9).bind fun t162 => (if t162 = true then (some true) else (some false))) else (some false))) else (some false))) else (some false))) else (some false)) else (some false)
theorem laws_eqState.mono : ∀ a0 a1 a2 a3 a4 a5 a6 a7 a8 a9 a10 a11 a12 a13 a14 a15 a16 a17 a18 a19 k,LeO (laws_eqState.f k a0 a1 a2 a3 a4 a5 a6 a7 a8 a9 a10 a11 a12 a13 a14 a15 a16 a17 a18 a19) (laws_eqState.f (k + 1) a0 a1 a2 a3 a4 a5 a6 a7 a8 a9 a10 a11 a12 a13 a14 a15 a16 a17 a18 a19) := by
 intro a0 a1 a2 a3 a4 a5 a6 a7 a8 a9 a10 a11 a12 a13 a14 a15 a16 a17 a18 a19 k
 unfold laws_eqState.f
 repeat' first
   | (with_reducible exact laws_eqEntryS.mono _ _ _)
   | (with_reducible exact laws_eqTombS.mono _ _ _)
   | (with_reducible exact LeO.refl _)
   | (with_reducible exact LeO.none _)
   | (with_reducible refine LeO.ite ?_ ?_)
   | (with_reducible refine LeO.bind ?_ (fun _ => ?_))
   | exact laws_eqEntryS.mono _ _ _
   | exact laws_eqTombS.mono _ _ _
   | exact LeO.none _
   | refine LeO.ite ?_ ?_
   | refine LeO.bind ?_ (fun _ => ?_)
set_option maxHeartbeats 8000000 in
set_option maxRecDepth 100000 in
theorem laws_eqState.calls (k : Nat) (a0_0 : Int) (a0_1 : Int) (A0_2 : Option Addr) (c0_2 : Nat) (l0_2 : List (S39)) (A0_3 : Option Addr) (c0_3 : Nat) (l0_3 : List (S55)) (a0_4 : Int) (a0_5 : Int) (a0_6 : Int) (a0_7 : Int) (a0_8 : Int) (a0_9 : Int) (a1_0 : Int) (a1_1 : Int) (A1_2 : Option Addr) (c1_2 : Nat) (l1_2 : List (S39)) (A1_3 : Option Addr) (c1_3 : Nat) (l1_3 : List (S55)) (a1_4 : Int) (a1_5 : Int) (a1_6 : Int) (a1_7 : Int) (a1_8 : Int) (a1_9 : Int) (r : Bool) (w : World) (hr0_2 : Kd.C k39 w A0_2 l0_2.length l0_2) (hc0_2 : l0_2.length ≤ c0_2) (hr0_3 : Kd.C k55 w A0_3 l0_3.length l0_3) (hc0_3 : l0_3.length ≤ c0_3) (hr1_2 : Kd.C k39 w A1_2 l1_2.length l1_2) (hc1_2 : l1_2.length ≤ c1_2) (hr1_3 : Kd.C k55 w A1_3 l1_3.length l1_3) (hc1_3 : l1_3.length ≤ c1_3) (h : laws_eqState.f k a0_0 a0_1 l0_2 l0_3 a0_4 a0_5 a0_6 a0_7 a0_8 a0_9 a1_0 a1_1 l1_2 l1_3 a1_4 a1_5 a1_6 a1_7 a1_8 a1_9 = some r) :
  Calls Tryd.prog 10 #[.agg #[.int .i64 a0_0,.int .i64 a0_1,.slice A0_2 l0_2.length c0_2,.slice A0_3 l0_3.length c0_3,.int .i64 a0_4,.int .i64 a0_5,.int .i64 a0_6,.int .i64 a0_7,.int .i64 a0_8,.int .i64 a0_9],.agg #[.int .i64 a1_0,.int .i64 a1_1,.slice A1_2 l1_2.length c1_2,.slice A1_3 l1_3.length c1_3,.int .i64 a1_4,.int .i64 a1_5,.int .i64 a1_6,.int .i64 a1_7,.int .i64 a1_8,.int .i64 a1_9]] w fun e w' => e = .returned (.bool r) ∧ Below w.heap.size w w' := by
 have hu32 := Tryd.underlying32
 have hu24 := Tryd.underlying24
 have HR0_2 := Aside0.mk hr0_2
 have HC0_2 := Aside0.mk hc0_2
 clear hr0_2 hc0_2
 have HR0_3 := Aside0.mk hr0_3
 have HC0_3 := Aside0.mk hc0_3
 clear hr0_3 hc0_3
 have HR1_2 := Aside0.mk hr1_2
 have HC1_2 := Aside0.mk hc1_2
 clear hr1_2 hc1_2
 have HR1_3 := Aside0.mk hr1_3
 have HC1_3 := Aside0.mk hc1_3
 clear hr1_3 hc1_3
 have HB := Aside0.mk (Below.refl w.heap.size w)
 have H : (if a0_0 = a1_0 then (if a0_1 = a1_1 then ((laws_eqEntryS.f k l0_2 l1_2).bind fun t159 => (if t159 = true then ((laws_eqTombS.f k l0_3 l1_3).bind fun t160 => (if t160 = true then ((laws_eqIntA3.f a0_4 a0_5 a0_6 a1_4 a1_5 a1_6).bind fun t161 => (if t161 = true then ((laws_eqIntA3.f a0_7 a0_8 a0_9 a1_7 a1_8 a1_9).bind fun t162 => (if t162 = true then (some true) else (some false))) else (some false))) else (some false))) else (some false))) else (some false)) else (some false)) = some r := h
 clear h
 by_cases c3 : a0_0 = a1_0
 ·rw [if_pos c3] at H
  have c3b0 : (a0_0 == a1_0) = true := beq_iff_eq.mpr c3
  have c3b1 : (a0_0 != a1_0) = false := bne_eq_false_iff_eq.mpr c3
  clear c3
  by_cases c4 : a0_1 = a1_1
  ·rw [if_pos c4] at H
   have c4b0 : (a0_1 == a1_1) = true := beq_iff_eq.mpr c4
   have c4b1 : (a0_1 != a1_1) = false := bne_eq_false_iff_eq.mpr c4
   clear c4
   replace H := Option.bind_eq_some_iff.mp H
   obtain ⟨t159,A50,H⟩ := H
   try dsimp only at H
   have A5 := Aside0.mk A50
   clear A50
   by_cases c6 : t159 = true
   ·subst c6
    rw [if_pos rfl] at H
    replace H := Option.bind_eq_some_iff.mp H
    obtain ⟨t160,A70,H⟩ := H
    try dsimp only at H
    have A7 := Aside0.mk A70
    clear A70
    by_cases c8 : t160 = true
    ·subst c8
     rw [if_pos rfl] at H
     replace H := Option.bind_eq_some_iff.mp H
     obtain ⟨t161,A90,H⟩ := H
     try dsimp only at H
     have A9 := Aside0.mk A90
     clear A90
     by_cases c10 : t161 = true
     ·subst c10
      rw [if_pos rfl] at H
      replace H := Option.bind_eq_some_iff.mp H
      obtain ⟨t162,A110,H⟩ := H
      try dsimp only at H
      have A11 := Aside0.mk A110
      clear A110
      by_cases c12 : t162 = true
      ·subst c12
       rw [if_pos rfl] at H
       obtain rfl := Option.some.inj H
       go_enter Tryd.func10,Tryd.ntmps10
       go_wp2_with (first | ((with_reducible refine gate_dst (N:=2) rfl ?_); refine box_event ?hg (N:=2) ?hd (cs := #[.int .i64 a0_0,.int .i64 a0_1,.slice A0_2 l0_2.length c0_2,.slice A0_3 l0_3.length c0_3,.int .i64 a0_4,.int .i64 a0_5,.int .i64 a0_6,.int .i64 a0_7,.int .i64 a0_8,.int .i64 a0_9]) (t:=32) ?hr ?_; (case hd => rfl); (case hg => rfl); (case hr => first | (go_simp; done) | (go_simp; rfl)); intro gb157 hg w13 hbox hb; have n0_ := Aside0.mk (below_step bA hb); have n1_ := Aside0.mk (hbox); have n2_ := Aside0.mk ((by rw [hg]; exact (below_size bA) : w.heap.size ≤ gb157)); have n3_ := Aside0.mk ((by rw [hg]; exact (below_size bA) : w.heap.size ≤ gb157)); clear HB; have HB := n0_; have BK157 := n1_; have GW157 := n2_; have GE157 := n3_; clear n0_ n1_ n2_ n3_; clear hb hbox hg) | ((with_reducible refine gate_dst (N:=3) rfl ?_); refine box_event ?hg (N:=3) ?hd (cs := #[.int .i64 a1_0,.int .i64 a1_1,.slice A1_2 l1_2.length c1_2,.slice A1_3 l1_3.length c1_3,.int .i64 a1_4,.int .i64 a1_5,.int .i64 a1_6,.int .i64 a1_7,.int .i64 a1_8,.int .i64 a1_9]) (t:=32) ?hr ?_; (case hd => rfl); (case hg => rfl); (case hr => first | (go_simp; done) | (go_simp; rfl)); intro gb158 hg w14 hbox hb; have n0_ := Aside0.mk (blk_below (g:=gb157) (o:=.cells #[.int .i64 a0_0,.int .i64 a0_1,.slice A0_2 l0_2.length c0_2,.slice A0_3 l0_3.length c0_3,.int .i64 a0_4,.int .i64 a0_5,.int .i64 a0_6,.int .i64 a0_7,.int .i64 a0_8,.int .i64 a0_9] 32 (0,0)) (kA BK157.out) hb); have n1_ := Aside0.mk (below_step bA hb); have n2_ := Aside0.mk (hbox); have n3_ := Aside0.mk ((by rw [hg]; exact (below_size bA) : w.heap.size ≤ gb158)); have n4_ := Aside0.mk ((by rw [hg]; exact (below_size bA) : w.heap.size ≤ gb158)); have n5_ := Aside0.mk ((by rw [hg]; exact Nat.ne_of_lt (blk_lt (g:=gb157) (o:=.cells #[.int .i64 a0_0,.int .i64 a0_1,.slice A0_2 l0_2.length c0_2,.slice A0_3 l0_3.length c0_3,.int .i64 a0_4,.int .i64 a0_5,.int .i64 a0_6,.int .i64 a0_7,.int .i64 a0_8,.int .i64 a0_9] 32 (0,0)) (kA BK157.out)) : gb157 ≠ gb158)); have n6_ := Aside0.mk ((by rw [hg]; exact Nat.ne_of_gt (blk_lt (g:=gb157) (o:=.cells #[.int .i64 a0_0,.int .i64 a0_1,.slice A0_2 l0_2.length c0_2,.slice A0_3 l0_3.length c0_3,.int .i64 a0_4,.int .i64 a0_5,.int .i64 a0_6,.int .i64 a0_7,.int .i64 a0_8,.int .i64 a0_9] 32 (0,0)) (kA BK157.out)) : gb158 ≠ gb157)); clear BK157; clear HB; have BK157 := n0_; have HB := n1_; have BK158 := n2_; have GW158 := n3_; have GE158 := n4_; have NB157_158 := n5_; have NB158_157 := n6_; clear n0_ n1_ n2_ n3_ n4_ n5_ n6_; clear hb hbox hg; have hnb15 := NB157_158.out; have hnc15 := NB158_157.out; have hcz16_0 : w14.cell? ⟨gb157,0,none⟩ = some (.int .i64 a0_0) := (blk_cell BK157.out 0).trans rfl; have hcz16_1 : w14.cell? ⟨gb157,1,none⟩ = some (.int .i64 a0_1) := (blk_cell BK157.out 1).trans rfl; have hcz16_2 : w14.cell? ⟨gb157,2,none⟩ = some (.slice A0_2 l0_2.length c0_2) := (blk_cell BK157.out 2).trans rfl; have hcz16_3 : w14.cell? ⟨gb157,3,none⟩ = some (.slice A0_3 l0_3.length c0_3) := (blk_cell BK157.out 3).trans rfl; have hcz16_4 : w14.cell? ⟨gb157,4,none⟩ = some (.int .i64 a0_4) := (blk_cell BK157.out 4).trans rfl; have hcz16_5 : w14.cell? ⟨gb157,5,none⟩ = some (.int .i64 a0_5) := (blk_cell BK157.out 5).trans rfl; have hcz16_6 : w14.cell? ⟨gb157,6,none⟩ = some (.int .i64 a0_6) := (blk_cell BK157.out 6).trans rfl; have hcz16_7 : w14.cell? ⟨gb157,7,none⟩ = some (.int .i64 a0_7) := (blk_cell BK157.out 7).trans rfl; have hcz16_8 : w14.cell? ⟨gb157,8,none⟩ = some (.int .i64 a0_8) := (blk_cell BK157.out 8).trans rfl; have hcz16_9 : w14.cell? ⟨gb157,9,none⟩ = some (.int .i64 a0_9) := (blk_cell BK157.out 9).trans rfl; have hfz16_0 := blk_frozen BK157.out 0; have hfz16_1 := blk_frozen BK157.out 1; have hfz16_2 := blk_frozen BK157.out 2; have hfz16_3 := blk_frozen BK157.out 3; have hfz16_4 := blk_frozen BK157.out 4; have hfz16_5 := blk_frozen BK157.out 5; have hfz16_6 := blk_frozen BK157.out 6; have hfz16_7 := blk_frozen BK157.out 7; have hfz16_8 := blk_frozen BK157.out 8; have hfz16_9 := blk_frozen BK157.out 9; have hcz17_0 : w14.cell? ⟨gb158,0,none⟩ = some (.int .i64 a1_0) := (blk_cell BK158.out 0).trans rfl; have hcz17_1 : w14.cell? ⟨gb158,1,none⟩ = some (.int .i64 a1_1) := (blk_cell BK158.out 1).trans rfl; have hcz17_2 : w14.cell? ⟨gb158,2,none⟩ = some (.slice A1_2 l1_2.length c1_2) := (blk_cell BK158.out 2).trans rfl; have hcz17_3 : w14.cell? ⟨gb158,3,none⟩ = some (.slice A1_3 l1_3.length c1_3) := (blk_cell BK158.out 3).trans rfl; have hcz17_4 : w14.cell? ⟨gb158,4,none⟩ = some (.int .i64 a1_4) := (blk_cell BK158.out 4).trans rfl; have hcz17_5 : w14.cell? ⟨gb158,5,none⟩ = some (.int .i64 a1_5) := (blk_cell BK158.out 5).trans rfl; have hcz17_6 : w14.cell? ⟨gb158,6,none⟩ = some (.int .i64 a1_6) := (blk_cell BK158.out 6).trans rfl; have hcz17_7 : w14.cell? ⟨gb158,7,none⟩ = some (.int .i64 a1_7) := (blk_cell BK158.out 7).trans rfl; have hcz17_8 : w14.cell? ⟨gb158,8,none⟩ = some (.int .i64 a1_8) := (blk_cell BK158.out 8).trans rfl; have hcz17_9 : w14.cell? ⟨gb158,9,none⟩ = some (.int .i64 a1_9) := (blk_cell BK158.out 9).trans rfl; have hfz17_0 := blk_frozen BK158.out 0; have hfz17_1 := blk_frozen BK158.out 1; have hfz17_2 := blk_frozen BK158.out 2; have hfz17_3 := blk_frozen BK158.out 3; have hfz17_4 := blk_frozen BK158.out 4; have hfz17_5 := blk_frozen BK158.out 5; have hfz17_6 := blk_frozen BK158.out 6; have hfz17_7 := blk_frozen BK158.out 7; have hfz17_8 := blk_frozen BK158.out 8; have hfz17_9 := blk_frozen BK158.out 9) | ((with_reducible refine gate_callee (f:=31) rfl ?_); refine goesL_ (some 19) rfl rfl Tryd.func31 (by kernel_rfl) rfl #[.slice A0_2 l0_2.length c0_2,.slice A1_2 l1_2.length c1_2] rfl mA ?_; (with_reducible refine (laws_eqEntryS.calls k _ _ l0_2 _ _ l1_2 true _ ?side1 ?side2 ?side3 ?side4 A5.out).mono ?_); (case side1 => repeat (first | exact (Kd.C_below HR0_2.out HB.out) | (with_reducible refine Kd.C_alloc ?_ _) | (with_reducible refine Kd.C_drewN ?_ _) | (with_reducible refine Kd.C_drew ?_))); (case side2 => exact HC0_2.out); (case side3 => repeat (first | exact (Kd.C_below HR1_2.out HB.out) | (with_reducible refine Kd.C_alloc ?_ _) | (with_reducible refine Kd.C_drewN ?_ _) | (with_reducible refine Kd.C_drew ?_))); (case side4 => exact HC1_2.out); rintro e w18 ⟨rfl,hb⟩; refine ⟨_,rfl,?_⟩; have n0_ := Aside0.mk (blk_below (g:=gb157) (o:=.cells #[.int .i64 a0_0,.int .i64 a0_1,.slice A0_2 l0_2.length c0_2,.slice A0_3 l0_3.length c0_3,.int .i64 a0_4,.int .i64 a0_5,.int .i64 a0_6,.int .i64 a0_7,.int .i64 a0_8,.int .i64 a0_9] 32 (0,0)) (kA BK157.out) hb); have n1_ := Aside0.mk (blk_below (g:=gb158) (o:=.cells #[.int .i64 a1_0,.int .i64 a1_1,.slice A1_2 l1_2.length c1_2,.slice A1_3 l1_3.length c1_3,.int .i64 a1_4,.int .i64 a1_5,.int .i64 a1_6,.int .i64 a1_7,.int .i64 a1_8,.int .i64 a1_9] 32 (0,0)) (kA BK158.out) hb); have n2_ := Aside0.mk (below_step bA hb); clear BK157; clear BK158; clear HB; have BK157 := n0_; have BK158 := n1_; have HB := n2_; clear n0_ n1_ n2_; (try clear hb); (try clear hb2); (try clear hk); (try clear hi); have hcz19_0 : w18.cell? ⟨gb157,0,none⟩ = some (.int .i64 a0_0) := (blk_cell BK157.out 0).trans rfl; have hcz19_1 : w18.cell? ⟨gb157,1,none⟩ = some (.int .i64 a0_1) := (blk_cell BK157.out 1).trans rfl; have hcz19_2 : w18.cell? ⟨gb157,2,none⟩ = some (.slice A0_2 l0_2.length c0_2) := (blk_cell BK157.out 2).trans rfl; have hcz19_3 : w18.cell? ⟨gb157,3,none⟩ = some (.slice A0_3 l0_3.length c0_3) := (blk_cell BK157.out 3).trans rfl; have hcz19_4 : w18.cell? ⟨gb157,4,none⟩ = some (.int .i64 a0_4) := (blk_cell BK157.out 4).trans rfl; have hcz19_5 : w18.cell? ⟨gb157,5,none⟩ = some (.int .i64 a0_5) := (blk_cell BK157.out 5).trans rfl; have hcz19_6 : w18.cell? ⟨gb157,6,none⟩ = some (.int .i64 a0_6) := (blk_cell BK157.out 6).trans rfl; have hcz19_7 : w18.cell? ⟨gb157,7,none⟩ = some (.int .i64 a0_7) := (blk_cell BK157.out 7).trans rfl; have hcz19_8 : w18.cell? ⟨gb157,8,none⟩ = some (.int .i64 a0_8) := (blk_cell BK157.out 8).trans rfl; have hcz19_9 : w18.cell? ⟨gb157,9,none⟩ = some (.int .i64 a0_9) := (blk_cell BK157.out 9).trans rfl; have hfz19_0 := blk_frozen BK157.out 0; have hfz19_1 := blk_frozen BK157.out 1; have hfz19_2 := blk_frozen BK157.out 2; have hfz19_3 := blk_frozen BK157.out 3; have hfz19_4 := blk_frozen BK157.out 4; have hfz19_5 := blk_frozen BK157.out 5; have hfz19_6 := blk_frozen BK157.out 6; have hfz19_7 := blk_frozen BK157.out 7; have hfz19_8 := blk_frozen BK157.out 8; have hfz19_9 := blk_frozen BK157.out 9; have hcz20_0 : w18.cell? ⟨gb158,0,none⟩ = some (.int .i64 a1_0) := (blk_cell BK158.out 0).trans rfl; have hcz20_1 : w18.cell? ⟨gb158,1,none⟩ = some (.int .i64 a1_1) := (blk_cell BK158.out 1).trans rfl; have hcz20_2 : w18.cell? ⟨gb158,2,none⟩ = some (.slice A1_2 l1_2.length c1_2) := (blk_cell BK158.out 2).trans rfl; have hcz20_3 : w18.cell? ⟨gb158,3,none⟩ = some (.slice A1_3 l1_3.length c1_3) := (blk_cell BK158.out 3).trans rfl; have hcz20_4 : w18.cell? ⟨gb158,4,none⟩ = some (.int .i64 a1_4) := (blk_cell BK158.out 4).trans rfl; have hcz20_5 : w18.cell? ⟨gb158,5,none⟩ = some (.int .i64 a1_5) := (blk_cell BK158.out 5).trans rfl; have hcz20_6 : w18.cell? ⟨gb158,6,none⟩ = some (.int .i64 a1_6) := (blk_cell BK158.out 6).trans rfl; have hcz20_7 : w18.cell? ⟨gb158,7,none⟩ = some (.int .i64 a1_7) := (blk_cell BK158.out 7).trans rfl; have hcz20_8 : w18.cell? ⟨gb158,8,none⟩ = some (.int .i64 a1_8) := (blk_cell BK158.out 8).trans rfl; have hcz20_9 : w18.cell? ⟨gb158,9,none⟩ = some (.int .i64 a1_9) := (blk_cell BK158.out 9).trans rfl; have hfz20_0 := blk_frozen BK158.out 0; have hfz20_1 := blk_frozen BK158.out 1; have hfz20_2 := blk_frozen BK158.out 2; have hfz20_3 := blk_frozen BK158.out 3; have hfz20_4 := blk_frozen BK158.out 4; have hfz20_5 := blk_frozen BK158.out 5; have hfz20_6 := blk_frozen BK158.out 6; have hfz20_7 := blk_frozen BK158.out 7; have hfz20_8 := blk_frozen BK158.out 8; have hfz20_9 := blk_frozen BK158.out 9) | ((with_reducible refine gate_callee (f:=32) rfl ?_); refine goesL_ (some 25) rfl rfl Tryd.func32 (by kernel_rfl) rfl #[.slice A0_3 l0_3.length c0_3,.slice A1_3 l1_3.length c1_3] rfl mA ?_; (with_reducible refine (laws_eqTombS.calls k _ _ l0_3 _ _ l1_3 true _ ?side1 ?side2 ?side3 ?side4 A7.out).mono ?_); (case side1 => repeat (first | exact (Kd.C_below HR0_3.out HB.out) | (with_reducible refine Kd.C_alloc ?_ _) | (with_reducible refine Kd.C_drewN ?_ _) | (with_reducible refine Kd.C_drew ?_))); (case side2 => exact HC0_3.out); (case side3 => repeat (first | exact (Kd.C_below HR1_3.out HB.out) | (with_reducible refine Kd.C_alloc ?_ _) | (with_reducible refine Kd.C_drewN ?_ _) | (with_reducible refine Kd.C_drew ?_))); (case side4 => exact HC1_3.out); rintro e w21 ⟨rfl,hb⟩; refine ⟨_,rfl,?_⟩; have n0_ := Aside0.mk (blk_below (g:=gb157) (o:=.cells #[.int .i64 a0_0,.int .i64 a0_1,.slice A0_2 l0_2.length c0_2,.slice A0_3 l0_3.length c0_3,.int .i64 a0_4,.int .i64 a0_5,.int .i64 a0_6,.int .i64 a0_7,.int .i64 a0_8,.int .i64 a0_9] 32 (0,0)) (kA BK157.out) hb); have n1_ := Aside0.mk (blk_below (g:=gb158) (o:=.cells #[.int .i64 a1_0,.int .i64 a1_1,.slice A1_2 l1_2.length c1_2,.slice A1_3 l1_3.length c1_3,.int .i64 a1_4,.int .i64 a1_5,.int .i64 a1_6,.int .i64 a1_7,.int .i64 a1_8,.int .i64 a1_9] 32 (0,0)) (kA BK158.out) hb); have n2_ := Aside0.mk (below_step bA hb); clear BK157; clear BK158; clear HB; have BK157 := n0_; have BK158 := n1_; have HB := n2_; clear n0_ n1_ n2_; (try clear hb); (try clear hb2); (try clear hk); (try clear hi); have hcz22_0 : w21.cell? ⟨gb157,0,none⟩ = some (.int .i64 a0_0) := (blk_cell BK157.out 0).trans rfl; have hcz22_1 : w21.cell? ⟨gb157,1,none⟩ = some (.int .i64 a0_1) := (blk_cell BK157.out 1).trans rfl; have hcz22_2 : w21.cell? ⟨gb157,2,none⟩ = some (.slice A0_2 l0_2.length c0_2) := (blk_cell BK157.out 2).trans rfl; have hcz22_3 : w21.cell? ⟨gb157,3,none⟩ = some (.slice A0_3 l0_3.length c0_3) := (blk_cell BK157.out 3).trans rfl; have hcz22_4 : w21.cell? ⟨gb157,4,none⟩ = some (.int .i64 a0_4) := (blk_cell BK157.out 4).trans rfl; have hcz22_5 : w21.cell? ⟨gb157,5,none⟩ = some (.int .i64 a0_5) := (blk_cell BK157.out 5).trans rfl; have hcz22_6 : w21.cell? ⟨gb157,6,none⟩ = some (.int .i64 a0_6) := (blk_cell BK157.out 6).trans rfl; have hcz22_7 : w21.cell? ⟨gb157,7,none⟩ = some (.int .i64 a0_7) := (blk_cell BK157.out 7).trans rfl; have hcz22_8 : w21.cell? ⟨gb157,8,none⟩ = some (.int .i64 a0_8) := (blk_cell BK157.out 8).trans rfl; have hcz22_9 : w21.cell? ⟨gb157,9,none⟩ = some (.int .i64 a0_9) := (blk_cell BK157.out 9).trans rfl; have hfz22_0 := blk_frozen BK157.out 0; have hfz22_1 := blk_frozen BK157.out 1; have hfz22_2 := blk_frozen BK157.out 2; have hfz22_3 := blk_frozen BK157.out 3; have hfz22_4 := blk_frozen BK157.out 4; have hfz22_5 := blk_frozen BK157.out 5; have hfz22_6 := blk_frozen BK157.out 6; have hfz22_7 := blk_frozen BK157.out 7; have hfz22_8 := blk_frozen BK157.out 8; have hfz22_9 := blk_frozen BK157.out 9; have hcz23_0 : w21.cell? ⟨gb158,0,none⟩ = some (.int .i64 a1_0) := (blk_cell BK158.out 0).trans rfl; have hcz23_1 : w21.cell? ⟨gb158,1,none⟩ = some (.int .i64 a1_1) := (blk_cell BK158.out 1).trans rfl; have hcz23_2 : w21.cell? ⟨gb158,2,none⟩ = some (.slice A1_2 l1_2.length c1_2) := (blk_cell BK158.out 2).trans rfl; have hcz23_3 : w21.cell? ⟨gb158,3,none⟩ = some (.slice A1_3 l1_3.length c1_3) := (blk_cell BK158.out 3).trans rfl; have hcz23_4 : w21.cell? ⟨gb158,4,none⟩ = some (.int .i64 a1_4) := (blk_cell BK158.out 4).trans rfl; have hcz23_5 : w21.cell? ⟨gb158,5,none⟩ = some (.int .i64 a1_5) := (blk_cell BK158.out 5).trans rfl; have hcz23_6 : w21.cell? ⟨gb158,6,none⟩ = some (.int .i64 a1_6) := (blk_cell BK158.out 6).trans rfl; have hcz23_7 : w21.cell? ⟨gb158,7,none⟩ = some (.int .i64 a1_7) := (blk_cell BK158.out 7).trans rfl; have hcz23_8 : w21.cell? ⟨gb158,8,none⟩ = some (.int .i64 a1_8) := (blk_cell BK158.out 8).trans rfl; have hcz23_9 : w21.cell? ⟨gb158,9,none⟩ = some (.int .i64 a1_9) := (blk_cell BK158.out 9).trans rfl; have hfz23_0 := blk_frozen BK158.out 0; have hfz23_1 := blk_frozen BK158.out 1; have hfz23_2 := blk_frozen BK158.out 2; have hfz23_3 := blk_frozen BK158.out 3; have hfz23_4 := blk_frozen BK158.out 4; have hfz23_5 := blk_frozen BK158.out 5; have hfz23_6 := blk_frozen BK158.out 6; have hfz23_7 := blk_frozen BK158.out 7; have hfz23_8 := blk_frozen BK158.out 8; have hfz23_9 := blk_frozen BK158.out 9) | ((with_reducible refine gate_callee (f:=33) rfl ?_); refine goesL_ (some 31) rfl rfl Tryd.func33 (by kernel_rfl) rfl #[.agg #[.int .i64 a0_4,.int .i64 a0_5,.int .i64 a0_6],.agg #[.int .i64 a1_4,.int .i64 a1_5,.int .i64 a1_6]] rfl mA ?_; (with_reducible refine (laws_eqIntA3.calls a0_4 a0_5 a0_6 a1_4 a1_5 a1_6 true _ A9.out).mono ?_); rintro e w24 ⟨rfl,hb⟩; refine ⟨_,rfl,?_⟩; have n0_ := Aside0.mk (blk_below (g:=gb157) (o:=.cells #[.int .i64 a0_0,.int .i64 a0_1,.slice A0_2 l0_2.length c0_2,.slice A0_3 l0_3.length c0_3,.int .i64 a0_4,.int .i64 a0_5,.int .i64 a0_6,.int .i64 a0_7,.int .i64 a0_8,.int .i64 a0_9] 32 (0,0)) (kA BK157.out) hb); have n1_ := Aside0.mk (blk_below (g:=gb158) (o:=.cells #[.int .i64 a1_0,.int .i64 a1_1,.slice A1_2 l1_2.length c1_2,.slice A1_3 l1_3.length c1_3,.int .i64 a1_4,.int .i64 a1_5,.int .i64 a1_6,.int .i64 a1_7,.int .i64 a1_8,.int .i64 a1_9] 32 (0,0)) (kA BK158.out) hb); have n2_ := Aside0.mk (below_step bA hb); clear BK157; clear BK158; clear HB; have BK157 := n0_; have BK158 := n1_; have HB := n2_; clear n0_ n1_ n2_; (try clear hb); (try clear hb2); (try clear hk); (try clear hi); have hcz25_0 : w24.cell? ⟨gb157,0,none⟩ = some (.int .i64 a0_0) := (blk_cell BK157.out 0).trans rfl; have hcz25_1 : w24.cell? ⟨gb157,1,none⟩ = some (.int .i64 a0_1) := (blk_cell BK157.out 1).trans rfl; have hcz25_2 : w24.cell? ⟨gb157,2,none⟩ = some (.slice A0_2 l0_2.length c0_2) := (blk_cell BK157.out 2).trans rfl; have hcz25_3 : w24.cell? ⟨gb157,3,none⟩ = some (.slice A0_3 l0_3.length c0_3) := (blk_cell BK157.out 3).trans rfl; have hcz25_4 : w24.cell? ⟨gb157,4,none⟩ = some (.int .i64 a0_4) := (blk_cell BK157.out 4).trans rfl; have hcz25_5 : w24.cell? ⟨gb157,5,none⟩ = some (.int .i64 a0_5) := (blk_cell BK157.out 5).trans rfl; have hcz25_6 : w24.cell? ⟨gb157,6,none⟩ = some (.int .i64 a0_6) := (blk_cell BK157.out 6).trans rfl; have hcz25_7 : w24.cell? ⟨gb157,7,none⟩ = some (.int .i64 a0_7) := (blk_cell BK157.out 7).trans rfl; have hcz25_8 : w24.cell? ⟨gb157,8,none⟩ = some (.int .i64 a0_8) := (blk_cell BK157.out 8).trans rfl; have hcz25_9 : w24.cell? ⟨gb157,9,none⟩ = some (.int .i64 a0_9) := (blk_cell BK157.out 9).trans rfl; have hfz25_0 := blk_frozen BK157.out 0; have hfz25_1 := blk_frozen BK157.out 1; have hfz25_2 := blk_frozen BK157.out 2; have hfz25_3 := blk_frozen BK157.out 3; have hfz25_4 := blk_frozen BK157.out 4; have hfz25_5 := blk_frozen BK157.out 5; have hfz25_6 := blk_frozen BK157.out 6; have hfz25_7 := blk_frozen BK157.out 7; have hfz25_8 := blk_frozen BK157.out 8; have hfz25_9 := blk_frozen BK157.out 9; have hcz26_0 : w24.cell? ⟨gb158,0,none⟩ = some (.int .i64 a1_0) := (blk_cell BK158.out 0).trans rfl; have hcz26_1 : w24.cell? ⟨gb158,1,none⟩ = some (.int .i64 a1_1) := (blk_cell BK158.out 1).trans rfl; have hcz26_2 : w24.cell? ⟨gb158,2,none⟩ = some (.slice A1_2 l1_2.length c1_2) := (blk_cell BK158.out 2).trans rfl; have hcz26_3 : w24.cell? ⟨gb158,3,none⟩ = some (.slice A1_3 l1_3.length c1_3) := (blk_cell BK158.out 3).trans rfl; have hcz26_4 : w24.cell? ⟨gb158,4,none⟩ = some (.int .i64 a1_4) := (blk_cell BK158.out 4).trans rfl; have hcz26_5 : w24.cell? ⟨gb158,5,none⟩ = some (.int .i64 a1_5) := (blk_cell BK158.out 5).trans rfl; have hcz26_6 : w24.cell? ⟨gb158,6,none⟩ = some (.int .i64 a1_6) := (blk_cell BK158.out 6).trans rfl; have hcz26_7 : w24.cell? ⟨gb158,7,none⟩ = some (.int .i64 a1_7) := (blk_cell BK158.out 7).trans rfl; have hcz26_8 : w24.cell? ⟨gb158,8,none⟩ = some (.int .i64 a1_8) := (blk_cell BK158.out 8).trans rfl; have hcz26_9 : w24.cell? ⟨gb158,9,none⟩ = some (.int .i64 a1_9) := (blk_cell BK158.out 9).trans rfl; have hfz26_0 := blk_frozen BK158.out 0; have hfz26_1 := blk_frozen BK158.out 1; have hfz26_2 := blk_frozen BK158.out 2; have hfz26_3 := blk_frozen BK158.out 3; have hfz26_4 := blk_frozen BK158.out 4; have hfz26_5 := blk_frozen BK158.out 5; have hfz26_6 := blk_frozen BK158.out 6; have hfz26_7 := blk_frozen BK158.out 7; have hfz26_8 := blk_frozen BK158.out 8; have hfz26_9 := blk_frozen BK158.out 9) | ((with_reducible refine gate_callee (f:=33) rfl ?_); refine goesL_ (some 37) rfl rfl Tryd.func33 (by kernel_rfl) rfl #[.agg #[.int .i64 a0_7,.int .i64 a0_8,.int .i64 a0_9],.agg #[.int .i64 a1_7,.int .i64 a1_8,.int .i64 a1_9]] rfl mA ?_; (with_reducible refine (laws_eqIntA3.calls a0_7 a0_8 a0_9 a1_7 a1_8 a1_9 true _ A11.out).mono ?_); rintro e w27 ⟨rfl,hb⟩; refine ⟨_,rfl,?_⟩; have n0_ := Aside0.mk (blk_below (g:=gb157) (o:=.cells #[.int .i64 a0_0,.int .i64 a0_1,.slice A0_2 l0_2.length c0_2,.slice A0_3 l0_3.length c0_3,.int .i64 a0_4,.int .i64 a0_5,.int .i64 a0_6,.int .i64 a0_7,.int .i64 a0_8,.int .i64 a0_9] 32 (0,0)) (kA BK157.out) hb); have n1_ := Aside0.mk (blk_below (g:=gb158) (o:=.cells #[.int .i64 a1_0,.int .i64 a1_1,.slice A1_2 l1_2.length c1_2,.slice A1_3 l1_3.length c1_3,.int .i64 a1_4,.int .i64 a1_5,.int .i64 a1_6,.int .i64 a1_7,.int .i64 a1_8,.int .i64 a1_9] 32 (0,0)) (kA BK158.out) hb); have n2_ := Aside0.mk (below_step bA hb); clear BK157; clear BK158; clear HB; have BK157 := n0_; have BK158 := n1_; have HB := n2_; clear n0_ n1_ n2_; (try clear hb); (try clear hb2); (try clear hk); (try clear hi)))
       go_ret
       exact ⟨by first | rfl | (simp [errW_none,errW_some] <;> rfl) | (simp [*,errW_none,errW_some] <;> rfl),bA⟩
      ·replace c12 := Bool.eq_false_iff.mpr c12
       subst c12
       rw [if_neg (show ¬ (false = true) by decide)] at H
       obtain rfl := Option.some.inj H
       go_enter Tryd.func10,Tryd.ntmps10
       go_wp2_with (first | ((with_reducible refine gate_dst (N:=2) rfl ?_); refine box_event ?hg (N:=2) ?hd (cs := #[.int .i64 a0_0,.int .i64 a0_1,.slice A0_2 l0_2.length c0_2,.slice A0_3 l0_3.length c0_3,.int .i64 a0_4,.int .i64 a0_5,.int .i64 a0_6,.int .i64 a0_7,.int .i64 a0_8,.int .i64 a0_9]) (t:=32) ?hr ?_; (case hd => rfl); (case hg => rfl); (case hr => first | (go_simp; done) | (go_simp; rfl)); intro gb157 hg w28 hbox hb; have n0_ := Aside0.mk (below_step bA hb); have n1_ := Aside0.mk (hbox); have n2_ := Aside0.mk ((by rw [hg]; exact (below_size bA) : w.heap.size ≤ gb157)); have n3_ := Aside0.mk ((by rw [hg]; exact (below_size bA) : w.heap.size ≤ gb157)); clear HB; have HB := n0_; have BK157 := n1_; have GW157 := n2_; have GE157 := n3_; clear n0_ n1_ n2_ n3_; clear hb hbox hg) | ((with_reducible refine gate_dst (N:=3) rfl ?_); refine box_event ?hg (N:=3) ?hd (cs := #[.int .i64 a1_0,.int .i64 a1_1,.slice A1_2 l1_2.length c1_2,.slice A1_3 l1_3.length c1_3,.int .i64 a1_4,.int .i64 a1_5,.int .i64 a1_6,.int .i64 a1_7,.int .i64 a1_8,.int .i64 a1_9]) (t:=32) ?hr ?_; (case hd => rfl); (case hg => rfl); (case hr => first | (go_simp; done) | (go_simp; rfl)); intro gb158 hg w29 hbox hb; have n0_ := Aside0.mk (blk_below (g:=gb157) (o:=.cells #[.int .i64 a0_0,.int .i64 a0_1,.slice A0_2 l0_2.length c0_2,.slice A0_3 l0_3.length c0_3,.int .i64 a0_4,.int .i64 a0_5,.int .i64 a0_6,.int .i64 a0_7,.int .i64 a0_8,.int .i64 a0_9] 32 (0,0)) (kA BK157.out) hb); have n1_ := Aside0.mk (below_step bA hb); have n2_ := Aside0.mk (hbox); have n3_ := Aside0.mk ((by rw [hg]; exact (below_size bA) : w.heap.size ≤ gb158)); have n4_ := Aside0.mk ((by rw [hg]; exact (below_size bA) : w.heap.size ≤ gb158)); have n5_ := Aside0.mk ((by rw [hg]; exact Nat.ne_of_lt (blk_lt (g:=gb157) (o:=.cells #[.int .i64 a0_0,.int .i64 a0_1,.slice A0_2 l0_2.length c0_2,.slice A0_3 l0_3.length c0_3,.int .i64 a0_4,.int .i64 a0_5,.int .i64 a0_6,.int .i64 a0_7,.int .i64 a0_8,.int .i64 a0_9] 32 (0,0)) (kA BK157.out)) : gb157 ≠ gb158)); have n6_ := Aside0.mk ((by rw [hg]; exact Nat.ne_of_gt (blk_lt (g:=gb157) (o:=.cells #[.int .i64 a0_0,.int .i64 a0_1,.slice A0_2 l0_2.length c0_2,.slice A0_3 l0_3.length c0_3,.int .i64 a0_4,.int .i64 a0_5,.int .i64 a0_6,.int .i64 a0_7,.int .i64 a0_8,.int .i64 a0_9] 32 (0,0)) (kA BK157.out)) : gb158 ≠ gb157)); clear BK157; clear HB; have BK157 := n0_; have HB := n1_; have BK158 := n2_; have GW158 := n3_; have GE158 := n4_; have NB157_158 := n5_; have NB158_157 := n6_; clear n0_ n1_ n2_ n3_ n4_ n5_ n6_; clear hb hbox hg; have hnb30 := NB157_158.out; have hnc30 := NB158_157.out; have hcz31_0 : w29.cell? ⟨gb157,0,none⟩ = some (.int .i64 a0_0) := (blk_cell BK157.out 0).trans rfl; have hcz31_1 : w29.cell? ⟨gb157,1,none⟩ = some (.int .i64 a0_1) := (blk_cell BK157.out 1).trans rfl; have hcz31_2 : w29.cell? ⟨gb157,2,none⟩ = some (.slice A0_2 l0_2.length c0_2) := (blk_cell BK157.out 2).trans rfl; have hcz31_3 : w29.cell? ⟨gb157,3,none⟩ = some (.slice A0_3 l0_3.length c0_3) := (blk_cell BK157.out 3).trans rfl; have hcz31_4 : w29.cell? ⟨gb157,4,none⟩ = some (.int .i64 a0_4) := (blk_cell BK157.out 4).trans rfl; have hcz31_5 : w29.cell? ⟨gb157,5,none⟩ = some (.int .i64 a0_5) := (blk_cell BK157.out 5).trans rfl; have hcz31_6 : w29.cell? ⟨gb157,6,none⟩ = some (.int .i64 a0_6) := (blk_cell BK157.out 6).trans rfl; have hcz31_7 : w29.cell? ⟨gb157,7,none⟩ = some (.int .i64 a0_7) := (blk_cell BK157.out 7).trans rfl; have hcz31_8 : w29.cell? ⟨gb157,8,none⟩ = some (.int .i64 a0_8) := (blk_cell BK157.out 8).trans rfl; have hcz31_9 : w29.cell? ⟨gb157,9,none⟩ = some (.int .i64 a0_9) := (blk_cell BK157.out 9).trans rfl; have hfz31_0 := blk_frozen BK157.out 0; have hfz31_1 := blk_frozen BK157.out 1; have hfz31_2 := blk_frozen BK157.out 2; have hfz31_3 := blk_frozen BK157.out 3; have hfz31_4 := blk_frozen BK157.out 4; have hfz31_5 := blk_frozen BK157.out 5; have hfz31_6 := blk_frozen BK157.out 6; have hfz31_7 := blk_frozen BK157.out 7; have hfz31_8 := blk_frozen BK157.out 8; have hfz31_9 := blk_frozen BK157.out 9; have hcz32_0 : w29.cell? ⟨gb158,0,none⟩ = some (.int .i64 a1_0) := (blk_cell BK158.out 0).trans rfl; have hcz32_1 : w29.cell? ⟨gb158,1,none⟩ = some (.int .i64 a1_1) := (blk_cell BK158.out 1).trans rfl; have hcz32_2 : w29.cell? ⟨gb158,2,none⟩ = some (.slice A1_2 l1_2.length c1_2) := (blk_cell BK158.out 2).trans rfl; have hcz32_3 : w29.cell? ⟨gb158,3,none⟩ = some (.slice A1_3 l1_3.length c1_3) := (blk_cell BK158.out 3).trans rfl; have hcz32_4 : w29.cell? ⟨gb158,4,none⟩ = some (.int .i64 a1_4) := (blk_cell BK158.out 4).trans rfl; have hcz32_5 : w29.cell? ⟨gb158,5,none⟩ = some (.int .i64 a1_5) := (blk_cell BK158.out 5).trans rfl; have hcz32_6 : w29.cell? ⟨gb158,6,none⟩ = some (.int .i64 a1_6) := (blk_cell BK158.out 6).trans rfl; have hcz32_7 : w29.cell? ⟨gb158,7,none⟩ = some (.int .i64 a1_7) := (blk_cell BK158.out 7).trans rfl; have hcz32_8 : w29.cell? ⟨gb158,8,none⟩ = some (.int .i64 a1_8) := (blk_cell BK158.out 8).trans rfl; have hcz32_9 : w29.cell? ⟨gb158,9,none⟩ = some (.int .i64 a1_9) := (blk_cell BK158.out 9).trans rfl; have hfz32_0 := blk_frozen BK158.out 0; have hfz32_1 := blk_frozen BK158.out 1; have hfz32_2 := blk_frozen BK158.out 2; have hfz32_3 := blk_frozen BK158.out 3; have hfz32_4 := blk_frozen BK158.out 4; have hfz32_5 := blk_frozen BK158.out 5; have hfz32_6 := blk_frozen BK158.out 6; have hfz32_7 := blk_frozen BK158.out 7; have hfz32_8 := blk_frozen BK158.out 8; have hfz32_9 := blk_frozen BK158.out 9) | ((with_reducible refine gate_callee (f:=31) rfl ?_); refine goesL_ (some 19) rfl rfl Tryd.func31 (by kernel_rfl) rfl #[.slice A0_2 l0_2.length c0_2,.slice A1_2 l1_2.length c1_2] rfl mA ?_; (with_reducible refine (laws_eqEntryS.calls k _ _ l0_2 _ _ l1_2 true _ ?side1 ?side2 ?side3 ?side4 A5.out).mono ?_); (case side1 => repeat (first | exact (Kd.C_below HR0_2.out HB.out) | (with_reducible refine Kd.C_alloc ?_ _) | (with_reducible refine Kd.C_drewN ?_ _) | (with_reducible refine Kd.C_drew ?_))); (case side2 => exact HC0_2.out); (case side3 => repeat (first | exact (Kd.C_below HR1_2.out HB.out) | (with_reducible refine Kd.C_alloc ?_ _) | (with_reducible refine Kd.C_drewN ?_ _) | (with_reducible refine Kd.C_drew ?_))); (case side4 => exact HC1_2.out); rintro e w33 ⟨rfl,hb⟩; refine ⟨_,rfl,?_⟩; have n0_ := Aside0.mk (blk_below (g:=gb157) (o:=.cells #[.int .i64 a0_0,.int .i64 a0_1,.slice A0_2 l0_2.length c0_2,.slice A0_3 l0_3.length c0_3,.int .i64 a0_4,.int .i64 a0_5,.int .i64 a0_6,.int .i64 a0_7,.int .i64 a0_8,.int .i64 a0_9] 32 (0,0)) (kA BK157.out) hb); have n1_ := Aside0.mk (blk_below (g:=gb158) (o:=.cells #[.int .i64 a1_0,.int .i64 a1_1,.slice A1_2 l1_2.length c1_2,.slice A1_3 l1_3.length c1_3,.int .i64 a1_4,.int .i64 a1_5,.int .i64 a1_6,.int .i64 a1_7,.int .i64 a1_8,.int .i64 a1_9] 32 (0,0)) (kA BK158.out) hb); have n2_ := Aside0.mk (below_step bA hb); clear BK157; clear BK158; clear HB; have BK157 := n0_; have BK158 := n1_; have HB := n2_; clear n0_ n1_ n2_; (try clear hb); (try clear hb2); (try clear hk); (try clear hi); have hcz34_0 : w33.cell? ⟨gb157,0,none⟩ = some (.int .i64 a0_0) := (blk_cell BK157.out 0).trans rfl; have hcz34_1 : w33.cell? ⟨gb157,1,none⟩ = some (.int .i64 a0_1) := (blk_cell BK157.out 1).trans rfl; have hcz34_2 : w33.cell? ⟨gb157,2,none⟩ = some (.slice A0_2 l0_2.length c0_2) := (blk_cell BK157.out 2).trans rfl; have hcz34_3 : w33.cell? ⟨gb157,3,none⟩ = some (.slice A0_3 l0_3.length c0_3) := (blk_cell BK157.out 3).trans rfl; have hcz34_4 : w33.cell? ⟨gb157,4,none⟩ = some (.int .i64 a0_4) := (blk_cell BK157.out 4).trans rfl; have hcz34_5 : w33.cell? ⟨gb157,5,none⟩ = some (.int .i64 a0_5) := (blk_cell BK157.out 5).trans rfl; have hcz34_6 : w33.cell? ⟨gb157,6,none⟩ = some (.int .i64 a0_6) := (blk_cell BK157.out 6).trans rfl; have hcz34_7 : w33.cell? ⟨gb157,7,none⟩ = some (.int .i64 a0_7) := (blk_cell BK157.out 7).trans rfl; have hcz34_8 : w33.cell? ⟨gb157,8,none⟩ = some (.int .i64 a0_8) := (blk_cell BK157.out 8).trans rfl; have hcz34_9 : w33.cell? ⟨gb157,9,none⟩ = some (.int .i64 a0_9) := (blk_cell BK157.out 9).trans rfl; have hfz34_0 := blk_frozen BK157.out 0; have hfz34_1 := blk_frozen BK157.out 1; have hfz34_2 := blk_frozen BK157.out 2; have hfz34_3 := blk_frozen BK157.out 3; have hfz34_4 := blk_frozen BK157.out 4; have hfz34_5 := blk_frozen BK157.out 5; have hfz34_6 := blk_frozen BK157.out 6; have hfz34_7 := blk_frozen BK157.out 7; have hfz34_8 := blk_frozen BK157.out 8; have hfz34_9 := blk_frozen BK157.out 9; have hcz35_0 : w33.cell? ⟨gb158,0,none⟩ = some (.int .i64 a1_0) := (blk_cell BK158.out 0).trans rfl; have hcz35_1 : w33.cell? ⟨gb158,1,none⟩ = some (.int .i64 a1_1) := (blk_cell BK158.out 1).trans rfl; have hcz35_2 : w33.cell? ⟨gb158,2,none⟩ = some (.slice A1_2 l1_2.length c1_2) := (blk_cell BK158.out 2).trans rfl; have hcz35_3 : w33.cell? ⟨gb158,3,none⟩ = some (.slice A1_3 l1_3.length c1_3) := (blk_cell BK158.out 3).trans rfl; have hcz35_4 : w33.cell? ⟨gb158,4,none⟩ = some (.int .i64 a1_4) := (blk_cell BK158.out 4).trans rfl; have hcz35_5 : w33.cell? ⟨gb158,5,none⟩ = some (.int .i64 a1_5) := (blk_cell BK158.out 5).trans rfl; have hcz35_6 : w33.cell? ⟨gb158,6,none⟩ = some (.int .i64 a1_6) := (blk_cell BK158.out 6).trans rfl; have hcz35_7 : w33.cell? ⟨gb158,7,none⟩ = some (.int .i64 a1_7) := (blk_cell BK158.out 7).trans rfl; have hcz35_8 : w33.cell? ⟨gb158,8,none⟩ = some (.int .i64 a1_8) := (blk_cell BK158.out 8).trans rfl; have hcz35_9 : w33.cell? ⟨gb158,9,none⟩ = some (.int .i64 a1_9) := (blk_cell BK158.out 9).trans rfl; have hfz35_0 := blk_frozen BK158.out 0; have hfz35_1 := blk_frozen BK158.out 1; have hfz35_2 := blk_frozen BK158.out 2; have hfz35_3 := blk_frozen BK158.out 3; have hfz35_4 := blk_frozen BK158.out 4; have hfz35_5 := blk_frozen BK158.out 5; have hfz35_6 := blk_frozen BK158.out 6; have hfz35_7 := blk_frozen BK158.out 7; have hfz35_8 := blk_frozen BK158.out 8; have hfz35_9 := blk_frozen BK158.out 9) | ((with_reducible refine gate_callee (f:=32) rfl ?_); refine goesL_ (some 25) rfl rfl Tryd.func32 (by kernel_rfl) rfl #[.slice A0_3 l0_3.length c0_3,.slice A1_3 l1_3.length c1_3] rfl mA ?_; (with_reducible refine (laws_eqTombS.calls k _ _ l0_3 _ _ l1_3 true _ ?side1 ?side2 ?side3 ?side4 A7.out).mono ?_); (case side1 => repeat (first | exact (Kd.C_below HR0_3.out HB.out) | (with_reducible refine Kd.C_alloc ?_ _) | (with_reducible refine Kd.C_drewN ?_ _) | (with_reducible refine Kd.C_drew ?_))); (case side2 => exact HC0_3.out); (case side3 => repeat (first | exact (Kd.C_below HR1_3.out HB.out) | (with_reducible refine Kd.C_alloc ?_ _) | (with_reducible refine Kd.C_drewN ?_ _) | (with_reducible refine Kd.C_drew ?_))); (case side4 => exact HC1_3.out); rintro e w36 ⟨rfl,hb⟩; refine ⟨_,rfl,?_⟩; have n0_ := Aside0.mk (blk_below (g:=gb157) (o:=.cells #[.int .i64 a0_0,.int .i64 a0_1,.slice A0_2 l0_2.length c0_2,.slice A0_3 l0_3.length c0_3,.int .i64 a0_4,.int .i64 a0_5,.int .i64 a0_6,.int .i64 a0_7,.int .i64 a0_8,.int .i64 a0_9] 32 (0,0)) (kA BK157.out) hb); have n1_ := Aside0.mk (blk_below (g:=gb158) (o:=.cells #[.int .i64 a1_0,.int .i64 a1_1,.slice A1_2 l1_2.length c1_2,.slice A1_3 l1_3.length c1_3,.int .i64 a1_4,.int .i64 a1_5,.int .i64 a1_6,.int .i64 a1_7,.int .i64 a1_8,.int .i64 a1_9] 32 (0,0)) (kA BK158.out) hb); have n2_ := Aside0.mk (below_step bA hb); clear BK157; clear BK158; clear HB; have BK157 := n0_; have BK158 := n1_; have HB := n2_; clear n0_ n1_ n2_; (try clear hb); (try clear hb2); (try clear hk); (try clear hi); have hcz37_0 : w36.cell? ⟨gb157,0,none⟩ = some (.int .i64 a0_0) := (blk_cell BK157.out 0).trans rfl; have hcz37_1 : w36.cell? ⟨gb157,1,none⟩ = some (.int .i64 a0_1) := (blk_cell BK157.out 1).trans rfl; have hcz37_2 : w36.cell? ⟨gb157,2,none⟩ = some (.slice A0_2 l0_2.length c0_2) := (blk_cell BK157.out 2).trans rfl; have hcz37_3 : w36.cell? ⟨gb157,3,none⟩ = some (.slice A0_3 l0_3.length c0_3) := (blk_cell BK157.out 3).trans rfl; have hcz37_4 : w36.cell? ⟨gb157,4,none⟩ = some (.int .i64 a0_4) := (blk_cell BK157.out 4).trans rfl; have hcz37_5 : w36.cell? ⟨gb157,5,none⟩ = some (.int .i64 a0_5) := (blk_cell BK157.out 5).trans rfl; have hcz37_6 : w36.cell? ⟨gb157,6,none⟩ = some (.int .i64 a0_6) := (blk_cell BK157.out 6).trans rfl; have hcz37_7 : w36.cell? ⟨gb157,7,none⟩ = some (.int .i64 a0_7) := (blk_cell BK157.out 7).trans rfl; have hcz37_8 : w36.cell? ⟨gb157,8,none⟩ = some (.int .i64 a0_8) := (blk_cell BK157.out 8).trans rfl; have hcz37_9 : w36.cell? ⟨gb157,9,none⟩ = some (.int .i64 a0_9) := (blk_cell BK157.out 9).trans rfl; have hfz37_0 := blk_frozen BK157.out 0; have hfz37_1 := blk_frozen BK157.out 1; have hfz37_2 := blk_frozen BK157.out 2; have hfz37_3 := blk_frozen BK157.out 3; have hfz37_4 := blk_frozen BK157.out 4; have hfz37_5 := blk_frozen BK157.out 5; have hfz37_6 := blk_frozen BK157.out 6; have hfz37_7 := blk_frozen BK157.out 7; have hfz37_8 := blk_frozen BK157.out 8; have hfz37_9 := blk_frozen BK157.out 9; have hcz38_0 : w36.cell? ⟨gb158,0,none⟩ = some (.int .i64 a1_0) := (blk_cell BK158.out 0).trans rfl; have hcz38_1 : w36.cell? ⟨gb158,1,none⟩ = some (.int .i64 a1_1) := (blk_cell BK158.out 1).trans rfl; have hcz38_2 : w36.cell? ⟨gb158,2,none⟩ = some (.slice A1_2 l1_2.length c1_2) := (blk_cell BK158.out 2).trans rfl; have hcz38_3 : w36.cell? ⟨gb158,3,none⟩ = some (.slice A1_3 l1_3.length c1_3) := (blk_cell BK158.out 3).trans rfl; have hcz38_4 : w36.cell? ⟨gb158,4,none⟩ = some (.int .i64 a1_4) := (blk_cell BK158.out 4).trans rfl; have hcz38_5 : w36.cell? ⟨gb158,5,none⟩ = some (.int .i64 a1_5) := (blk_cell BK158.out 5).trans rfl; have hcz38_6 : w36.cell? ⟨gb158,6,none⟩ = some (.int .i64 a1_6) := (blk_cell BK158.out 6).trans rfl; have hcz38_7 : w36.cell? ⟨gb158,7,none⟩ = some (.int .i64 a1_7) := (blk_cell BK158.out 7).trans rfl; have hcz38_8 : w36.cell? ⟨gb158,8,none⟩ = some (.int .i64 a1_8) := (blk_cell BK158.out 8).trans rfl; have hcz38_9 : w36.cell? ⟨gb158,9,none⟩ = some (.int .i64 a1_9) := (blk_cell BK158.out 9).trans rfl; have hfz38_0 := blk_frozen BK158.out 0; have hfz38_1 := blk_frozen BK158.out 1; have hfz38_2 := blk_frozen BK158.out 2; have hfz38_3 := blk_frozen BK158.out 3; have hfz38_4 := blk_frozen BK158.out 4; have hfz38_5 := blk_frozen BK158.out 5; have hfz38_6 := blk_frozen BK158.out 6; have hfz38_7 := blk_frozen BK158.out 7; have hfz38_8 := blk_frozen BK158.out 8; have hfz38_9 := blk_frozen BK158.out 9) | ((with_reducible refine gate_callee (f:=33) rfl ?_); refine goesL_ (some 31) rfl rfl Tryd.func33 (by kernel_rfl) rfl #[.agg #[.int .i64 a0_4,.int .i64 a0_5,.int .i64 a0_6],.agg #[.int .i64 a1_4,.int .i64 a1_5,.int .i64 a1_6]] rfl mA ?_; (with_reducible refine (laws_eqIntA3.calls a0_4 a0_5 a0_6 a1_4 a1_5 a1_6 true _ A9.out).mono ?_); rintro e w39 ⟨rfl,hb⟩; refine ⟨_,rfl,?_⟩; have n0_ := Aside0.mk (blk_below (g:=gb157) (o:=.cells #[.int .i64 a0_0,.int .i64 a0_1,.slice A0_2 l0_2.length c0_2,.slice A0_3 l0_3.length c0_3,.int .i64 a0_4,.int .i64 a0_5,.int .i64 a0_6,.int .i64 a0_7,.int .i64 a0_8,.int .i64 a0_9] 32 (0,0)) (kA BK157.out) hb); have n1_ := Aside0.mk (blk_below (g:=gb158) (o:=.cells #[.int .i64 a1_0,.int .i64 a1_1,.slice A1_2 l1_2.length c1_2,.slice A1_3 l1_3.length c1_3,.int .i64 a1_4,.int .i64 a1_5,.int .i64 a1_6,.int .i64 a1_7,.int .i64 a1_8,.int .i64 a1_9] 32 (0,0)) (kA BK158.out) hb); have n2_ := Aside0.mk (below_step bA hb); clear BK157; clear BK158; clear HB; have BK157 := n0_; have BK158 := n1_; have HB := n2_; clear n0_ n1_ n2_; (try clear hb); (try clear hb2); (try clear hk); (try clear hi); have hcz40_0 : w39.cell? ⟨gb157,0,none⟩ = some (.int .i64 a0_0) := (blk_cell BK157.out 0).trans rfl; have hcz40_1 : w39.cell? ⟨gb157,1,none⟩ = some (.int .i64 a0_1) := (blk_cell BK157.out 1).trans rfl; have hcz40_2 : w39.cell? ⟨gb157,2,none⟩ = some (.slice A0_2 l0_2.length c0_2) := (blk_cell BK157.out 2).trans rfl; have hcz40_3 : w39.cell? ⟨gb157,3,none⟩ = some (.slice A0_3 l0_3.length c0_3) := (blk_cell BK157.out 3).trans rfl; have hcz40_4 : w39.cell? ⟨gb157,4,none⟩ = some (.int .i64 a0_4) := (blk_cell BK157.out 4).trans rfl; have hcz40_5 : w39.cell? ⟨gb157,5,none⟩ = some (.int .i64 a0_5) := (blk_cell BK157.out 5).trans rfl; have hcz40_6 : w39.cell? ⟨gb157,6,none⟩ = some (.int .i64 a0_6) := (blk_cell BK157.out 6).trans rfl; have hcz40_7 : w39.cell? ⟨gb157,7,none⟩ = some (.int .i64 a0_7) := (blk_cell BK157.out 7).trans rfl; have hcz40_8 : w39.cell? ⟨gb157,8,none⟩ = some (.int .i64 a0_8) := (blk_cell BK157.out 8).trans rfl; have hcz40_9 : w39.cell? ⟨gb157,9,none⟩ = some (.int .i64 a0_9) := (blk_cell BK157.out 9).trans rfl; have hfz40_0 := blk_frozen BK157.out 0; have hfz40_1 := blk_frozen BK157.out 1; have hfz40_2 := blk_frozen BK157.out 2; have hfz40_3 := blk_frozen BK157.out 3; have hfz40_4 := blk_frozen BK157.out 4; have hfz40_5 := blk_frozen BK157.out 5; have hfz40_6 := blk_frozen BK157.out 6; have hfz40_7 := blk_frozen BK157.out 7; have hfz40_8 := blk_frozen BK157.out 8; have hfz40_9 := blk_frozen BK157.out 9; have hcz41_0 : w39.cell? ⟨gb158,0,none⟩ = some (.int .i64 a1_0) := (blk_cell BK158.out 0).trans rfl; have hcz41_1 : w39.cell? ⟨gb158,1,none⟩ = some (.int .i64 a1_1) := (blk_cell BK158.out 1).trans rfl; have hcz41_2 : w39.cell? ⟨gb158,2,none⟩ = some (.slice A1_2 l1_2.length c1_2) := (blk_cell BK158.out 2).trans rfl; have hcz41_3 : w39.cell? ⟨gb158,3,none⟩ = some (.slice A1_3 l1_3.length c1_3) := (blk_cell BK158.out 3).trans rfl; have hcz41_4 : w39.cell? ⟨gb158,4,none⟩ = some (.int .i64 a1_4) := (blk_cell BK158.out 4).trans rfl; have hcz41_5 : w39.cell? ⟨gb158,5,none⟩ = some (.int .i64 a1_5) := (blk_cell BK158.out 5).trans rfl; have hcz41_6 : w39.cell? ⟨gb158,6,none⟩ = some (.int .i64 a1_6) := (blk_cell BK158.out 6).trans rfl; have hcz41_7 : w39.cell? ⟨gb158,7,none⟩ = some (.int .i64 a1_7) := (blk_cell BK158.out 7).trans rfl; have hcz41_8 : w39.cell? ⟨gb158,8,none⟩ = some (.int .i64 a1_8) := (blk_cell BK158.out 8).trans rfl; have hcz41_9 : w39.cell? ⟨gb158,9,none⟩ = some (.int .i64 a1_9) := (blk_cell BK158.out 9).trans rfl; have hfz41_0 := blk_frozen BK158.out 0; have hfz41_1 := blk_frozen BK158.out 1; have hfz41_2 := blk_frozen BK158.out 2; have hfz41_3 := blk_frozen BK158.out 3; have hfz41_4 := blk_frozen BK158.out 4; have hfz41_5 := blk_frozen BK158.out 5; have hfz41_6 := blk_frozen BK158.out 6; have hfz41_7 := blk_frozen BK158.out 7; have hfz41_8 := blk_frozen BK158.out 8; have hfz41_9 := blk_frozen BK158.out 9) | ((with_reducible refine gate_callee (f:=33) rfl ?_); refine goesL_ (some 37) rfl rfl Tryd.func33 (by kernel_rfl) rfl #[.agg #[.int .i64 a0_7,.int .i64 a0_8,.int .i64 a0_9],.agg #[.int .i64 a1_7,.int .i64 a1_8,.int .i64 a1_9]] rfl mA ?_; (with_reducible refine (laws_eqIntA3.calls a0_7 a0_8 a0_9 a1_7 a1_8 a1_9 false _ A11.out).mono ?_); rintro e w42 ⟨rfl,hb⟩; refine ⟨_,rfl,?_⟩; have n0_ := Aside0.mk (blk_below (g:=gb157) (o:=.cells #[.int .i64 a0_0,.int .i64 a0_1,.slice A0_2 l0_2.length c0_2,.slice A0_3 l0_3.length c0_3,.int .i64 a0_4,.int .i64 a0_5,.int .i64 a0_6,.int .i64 a0_7,.int .i64 a0_8,.int .i64 a0_9] 32 (0,0)) (kA BK157.out) hb); have n1_ := Aside0.mk (blk_below (g:=gb158) (o:=.cells #[.int .i64 a1_0,.int .i64 a1_1,.slice A1_2 l1_2.length c1_2,.slice A1_3 l1_3.length c1_3,.int .i64 a1_4,.int .i64 a1_5,.int .i64 a1_6,.int .i64 a1_7,.int .i64 a1_8,.int .i64 a1_9] 32 (0,0)) (kA BK158.out) hb); have n2_ := Aside0.mk (below_step bA hb); clear BK157; clear BK158; clear HB; have BK157 := n0_; have BK158 := n1_; have HB := n2_; clear n0_ n1_ n2_; (try clear hb); (try clear hb2); (try clear hk); (try clear hi)))
       go_ret
       exact ⟨by first | rfl | (simp [errW_none,errW_some] <;> rfl) | (simp [*,errW_none,errW_some] <;> rfl),bA⟩
     ·replace c10 := Bool.eq_false_iff.mpr c10
      subst c10
      rw [if_neg (show ¬ (false = true) by decide)] at H
      obtain rfl := Option.some.inj H
      go_enter Tryd.func10,Tryd.ntmps10
      go_wp2_with (first | ((with_reducible refine gate_dst (N:=2) rfl ?_); refine box_event ?hg (N:=2) ?hd (cs := #[.int .i64 a0_0,.int .i64 a0_1,.slice A0_2 l0_2.length c0_2,.slice A0_3 l0_3.length c0_3,.int .i64 a0_4,.int .i64 a0_5,.int .i64 a0_6,.int .i64 a0_7,.int .i64 a0_8,.int .i64 a0_9]) (t:=32) ?hr ?_; (case hd => rfl); (case hg => rfl); (case hr => first | (go_simp; done) | (go_simp; rfl)); intro gb157 hg w43 hbox hb; have n0_ := Aside0.mk (below_step bA hb); have n1_ := Aside0.mk (hbox); have n2_ := Aside0.mk ((by rw [hg]; exact (below_size bA) : w.heap.size ≤ gb157)); have n3_ := Aside0.mk ((by rw [hg]; exact (below_size bA) : w.heap.size ≤ gb157)); clear HB; have HB := n0_; have BK157 := n1_; have GW157 := n2_; have GE157 := n3_; clear n0_ n1_ n2_ n3_; clear hb hbox hg) | ((with_reducible refine gate_dst (N:=3) rfl ?_); refine box_event ?hg (N:=3) ?hd (cs := #[.int .i64 a1_0,.int .i64 a1_1,.slice A1_2 l1_2.length c1_2,.slice A1_3 l1_3.length c1_3,.int .i64 a1_4,.int .i64 a1_5,.int .i64 a1_6,.int .i64 a1_7,.int .i64 a1_8,.int .i64 a1_9]) (t:=32) ?hr ?_; (case hd => rfl); (case hg => rfl); (case hr => first | (go_simp; done) | (go_simp; rfl)); intro gb158 hg w44 hbox hb; have n0_ := Aside0.mk (blk_below (g:=gb157) (o:=.cells #[.int .i64 a0_0,.int .i64 a0_1,.slice A0_2 l0_2.length c0_2,.slice A0_3 l0_3.length c0_3,.int .i64 a0_4,.int .i64 a0_5,.int .i64 a0_6,.int .i64 a0_7,.int .i64 a0_8,.int .i64 a0_9] 32 (0,0)) (kA BK157.out) hb); have n1_ := Aside0.mk (below_step bA hb); have n2_ := Aside0.mk (hbox); have n3_ := Aside0.mk ((by rw [hg]; exact (below_size bA) : w.heap.size ≤ gb158)); have n4_ := Aside0.mk ((by rw [hg]; exact (below_size bA) : w.heap.size ≤ gb158)); have n5_ := Aside0.mk ((by rw [hg]; exact Nat.ne_of_lt (blk_lt (g:=gb157) (o:=.cells #[.int .i64 a0_0,.int .i64 a0_1,.slice A0_2 l0_2.length c0_2,.slice A0_3 l0_3.length c0_3,.int .i64 a0_4,.int .i64 a0_5,.int .i64 a0_6,.int .i64 a0_7,.int .i64 a0_8,.int .i64 a0_9] 32 (0,0)) (kA BK157.out)) : gb157 ≠ gb158)); have n6_ := Aside0.mk ((by rw [hg]; exact Nat.ne_of_gt (blk_lt (g:=gb157) (o:=.cells #[.int .i64 a0_0,.int .i64 a0_1,.slice A0_2 l0_2.length c0_2,.slice A0_3 l0_3.length c0_3,.int .i64 a0_4,.int .i64 a0_5,.int .i64 a0_6,.int .i64 a0_7,.int .i64 a0_8,.int .i64 a0_9] 32 (0,0)) (kA BK157.out)) : gb158 ≠ gb157)); clear BK157; clear HB; have BK157 := n0_; have HB := n1_; have BK158 := n2_; have GW158 := n3_; have GE158 := n4_; have NB157_158 := n5_; have NB158_157 := n6_; clear n0_ n1_ n2_ n3_ n4_ n5_ n6_; clear hb hbox hg; have hnb45 := NB157_158.out; have hnc45 := NB158_157.out; have hcz46_0 : w44.cell? ⟨gb157,0,none⟩ = some (.int .i64 a0_0) := (blk_cell BK157.out 0).trans rfl; have hcz46_1 : w44.cell? ⟨gb157,1,none⟩ = some (.int .i64 a0_1) := (blk_cell BK157.out 1).trans rfl; have hcz46_2 : w44.cell? ⟨gb157,2,none⟩ = some (.slice A0_2 l0_2.length c0_2) := (blk_cell BK157.out 2).trans rfl; have hcz46_3 : w44.cell? ⟨gb157,3,none⟩ = some (.slice A0_3 l0_3.length c0_3) := (blk_cell BK157.out 3).trans rfl; have hcz46_4 : w44.cell? ⟨gb157,4,none⟩ = some (.int .i64 a0_4) := (blk_cell BK157.out 4).trans rfl; have hcz46_5 : w44.cell? ⟨gb157,5,none⟩ = some (.int .i64 a0_5) := (blk_cell BK157.out 5).trans rfl; have hcz46_6 : w44.cell? ⟨gb157,6,none⟩ = some (.int .i64 a0_6) := (blk_cell BK157.out 6).trans rfl; have hcz46_7 : w44.cell? ⟨gb157,7,none⟩ = some (.int .i64 a0_7) := (blk_cell BK157.out 7).trans rfl; have hcz46_8 : w44.cell? ⟨gb157,8,none⟩ = some (.int .i64 a0_8) := (blk_cell BK157.out 8).trans rfl; have hcz46_9 : w44.cell? ⟨gb157,9,none⟩ = some (.int .i64 a0_9) := (blk_cell BK157.out 9).trans rfl; have hfz46_0 := blk_frozen BK157.out 0; have hfz46_1 := blk_frozen BK157.out 1; have hfz46_2 := blk_frozen BK157.out 2; have hfz46_3 := blk_frozen BK157.out 3; have hfz46_4 := blk_frozen BK157.out 4; have hfz46_5 := blk_frozen BK157.out 5; have hfz46_6 := blk_frozen BK157.out 6; have hfz46_7 := blk_frozen BK157.out 7; have hfz46_8 := blk_frozen BK157.out 8; have hfz46_9 := blk_frozen BK157.out 9; have hcz47_0 : w44.cell? ⟨gb158,0,none⟩ = some (.int .i64 a1_0) := (blk_cell BK158.out 0).trans rfl; have hcz47_1 : w44.cell? ⟨gb158,1,none⟩ = some (.int .i64 a1_1) := (blk_cell BK158.out 1).trans rfl; have hcz47_2 : w44.cell? ⟨gb158,2,none⟩ = some (.slice A1_2 l1_2.length c1_2) := (blk_cell BK158.out 2).trans rfl; have hcz47_3 : w44.cell? ⟨gb158,3,none⟩ = some (.slice A1_3 l1_3.length c1_3) := (blk_cell BK158.out 3).trans rfl; have hcz47_4 : w44.cell? ⟨gb158,4,none⟩ = some (.int .i64 a1_4) := (blk_cell BK158.out 4).trans rfl; have hcz47_5 : w44.cell? ⟨gb158,5,none⟩ = some (.int .i64 a1_5) := (blk_cell BK158.out 5).trans rfl; have hcz47_6 : w44.cell? ⟨gb158,6,none⟩ = some (.int .i64 a1_6) := (blk_cell BK158.out 6).trans rfl; have hcz47_7 : w44.cell? ⟨gb158,7,none⟩ = some (.int .i64 a1_7) := (blk_cell BK158.out 7).trans rfl; have hcz47_8 : w44.cell? ⟨gb158,8,none⟩ = some (.int .i64 a1_8) := (blk_cell BK158.out 8).trans rfl; have hcz47_9 : w44.cell? ⟨gb158,9,none⟩ = some (.int .i64 a1_9) := (blk_cell BK158.out 9).trans rfl; have hfz47_0 := blk_frozen BK158.out 0; have hfz47_1 := blk_frozen BK158.out 1; have hfz47_2 := blk_frozen BK158.out 2; have hfz47_3 := blk_frozen BK158.out 3; have hfz47_4 := blk_frozen BK158.out 4; have hfz47_5 := blk_frozen BK158.out 5; have hfz47_6 := blk_frozen BK158.out 6; have hfz47_7 := blk_frozen BK158.out 7; have hfz47_8 := blk_frozen BK158.out 8; have hfz47_9 := blk_frozen BK158.out 9) | ((with_reducible refine gate_callee (f:=31) rfl ?_); refine goesL_ (some 19) rfl rfl Tryd.func31 (by kernel_rfl) rfl #[.slice A0_2 l0_2.length c0_2,.slice A1_2 l1_2.length c1_2] rfl mA ?_; (with_reducible refine (laws_eqEntryS.calls k _ _ l0_2 _ _ l1_2 true _ ?side1 ?side2 ?side3 ?side4 A5.out).mono ?_); (case side1 => repeat (first | exact (Kd.C_below HR0_2.out HB.out) | (with_reducible refine Kd.C_alloc ?_ _) | (with_reducible refine Kd.C_drewN ?_ _) | (with_reducible refine Kd.C_drew ?_))); (case side2 => exact HC0_2.out); (case side3 => repeat (first | exact (Kd.C_below HR1_2.out HB.out) | (with_reducible refine Kd.C_alloc ?_ _) | (with_reducible refine Kd.C_drewN ?_ _) | (with_reducible refine Kd.C_drew ?_))); (case side4 => exact HC1_2.out); rintro e w48 ⟨rfl,hb⟩; refine ⟨_,rfl,?_⟩; have n0_ := Aside0.mk (blk_below (g:=gb157) (o:=.cells #[.int .i64 a0_0,.int .i64 a0_1,.slice A0_2 l0_2.length c0_2,.slice A0_3 l0_3.length c0_3,.int .i64 a0_4,.int .i64 a0_5,.int .i64 a0_6,.int .i64 a0_7,.int .i64 a0_8,.int .i64 a0_9] 32 (0,0)) (kA BK157.out) hb); have n1_ := Aside0.mk (blk_below (g:=gb158) (o:=.cells #[.int .i64 a1_0,.int .i64 a1_1,.slice A1_2 l1_2.length c1_2,.slice A1_3 l1_3.length c1_3,.int .i64 a1_4,.int .i64 a1_5,.int .i64 a1_6,.int .i64 a1_7,.int .i64 a1_8,.int .i64 a1_9] 32 (0,0)) (kA BK158.out) hb); have n2_ := Aside0.mk (below_step bA hb); clear BK157; clear BK158; clear HB; have BK157 := n0_; have BK158 := n1_; have HB := n2_; clear n0_ n1_ n2_; (try clear hb); (try clear hb2); (try clear hk); (try clear hi); have hcz49_0 : w48.cell? ⟨gb157,0,none⟩ = some (.int .i64 a0_0) := (blk_cell BK157.out 0).trans rfl; have hcz49_1 : w48.cell? ⟨gb157,1,none⟩ = some (.int .i64 a0_1) := (blk_cell BK157.out 1).trans rfl; have hcz49_2 : w48.cell? ⟨gb157,2,none⟩ = some (.slice A0_2 l0_2.length c0_2) := (blk_cell BK157.out 2).trans rfl; have hcz49_3 : w48.cell? ⟨gb157,3,none⟩ = some (.slice A0_3 l0_3.length c0_3) := (blk_cell BK157.out 3).trans rfl; have hcz49_4 : w48.cell? ⟨gb157,4,none⟩ = some (.int .i64 a0_4) := (blk_cell BK157.out 4).trans rfl; have hcz49_5 : w48.cell? ⟨gb157,5,none⟩ = some (.int .i64 a0_5) := (blk_cell BK157.out 5).trans rfl; have hcz49_6 : w48.cell? ⟨gb157,6,none⟩ = some (.int .i64 a0_6) := (blk_cell BK157.out 6).trans rfl; have hcz49_7 : w48.cell? ⟨gb157,7,none⟩ = some (.int .i64 a0_7) := (blk_cell BK157.out 7).trans rfl; have hcz49_8 : w48.cell? ⟨gb157,8,none⟩ = some (.int .i64 a0_8) := (blk_cell BK157.out 8).trans rfl; have hcz49_9 : w48.cell? ⟨gb157,9,none⟩ = some (.int .i64 a0_9) := (blk_cell BK157.out 9).trans rfl; have hfz49_0 := blk_frozen BK157.out 0; have hfz49_1 := blk_frozen BK157.out 1; have hfz49_2 := blk_frozen BK157.out 2; have hfz49_3 := blk_frozen BK157.out 3; have hfz49_4 := blk_frozen BK157.out 4; have hfz49_5 := blk_frozen BK157.out 5; have hfz49_6 := blk_frozen BK157.out 6; have hfz49_7 := blk_frozen BK157.out 7; have hfz49_8 := blk_frozen BK157.out 8; have hfz49_9 := blk_frozen BK157.out 9; have hcz50_0 : w48.cell? ⟨gb158,0,none⟩ = some (.int .i64 a1_0) := (blk_cell BK158.out 0).trans rfl; have hcz50_1 : w48.cell? ⟨gb158,1,none⟩ = some (.int .i64 a1_1) := (blk_cell BK158.out 1).trans rfl; have hcz50_2 : w48.cell? ⟨gb158,2,none⟩ = some (.slice A1_2 l1_2.length c1_2) := (blk_cell BK158.out 2).trans rfl; have hcz50_3 : w48.cell? ⟨gb158,3,none⟩ = some (.slice A1_3 l1_3.length c1_3) := (blk_cell BK158.out 3).trans rfl; have hcz50_4 : w48.cell? ⟨gb158,4,none⟩ = some (.int .i64 a1_4) := (blk_cell BK158.out 4).trans rfl; have hcz50_5 : w48.cell? ⟨gb158,5,none⟩ = some (.int .i64 a1_5) := (blk_cell BK158.out 5).trans rfl; have hcz50_6 : w48.cell? ⟨gb158,6,none⟩ = some (.int .i64 a1_6) := (blk_cell BK158.out 6).trans rfl; have hcz50_7 : w48.cell? ⟨gb158,7,none⟩ = some (.int .i64 a1_7) := (blk_cell BK158.out 7).trans rfl; have hcz50_8 : w48.cell? ⟨gb158,8,none⟩ = some (.int .i64 a1_8) := (blk_cell BK158.out 8).trans rfl; have hcz50_9 : w48.cell? ⟨gb158,9,none⟩ = some (.int .i64 a1_9) := (blk_cell BK158.out 9).trans rfl; have hfz50_0 := blk_frozen BK158.out 0; have hfz50_1 := blk_frozen BK158.out 1; have hfz50_2 := blk_frozen BK158.out 2; have hfz50_3 := blk_frozen BK158.out 3; have hfz50_4 := blk_frozen BK158.out 4; have hfz50_5 := blk_frozen BK158.out 5; have hfz50_6 := blk_frozen BK158.out 6; have hfz50_7 := blk_frozen BK158.out 7; have hfz50_8 := blk_frozen BK158.out 8; have hfz50_9 := blk_frozen BK158.out 9) | ((with_reducible refine gate_callee (f:=32) rfl ?_); refine goesL_ (some 25) rfl rfl Tryd.func32 (by kernel_rfl) rfl #[.slice A0_3 l0_3.length c0_3,.slice A1_3 l1_3.length c1_3] rfl mA ?_; (with_reducible refine (laws_eqTombS.calls k _ _ l0_3 _ _ l1_3 true _ ?side1 ?side2 ?side3 ?side4 A7.out).mono ?_); (case side1 => repeat (first | exact (Kd.C_below HR0_3.out HB.out) | (with_reducible refine Kd.C_alloc ?_ _) | (with_reducible refine Kd.C_drewN ?_ _) | (with_reducible refine Kd.C_drew ?_))); (case side2 => exact HC0_3.out); (case side3 => repeat (first | exact (Kd.C_below HR1_3.out HB.out) | (with_reducible refine Kd.C_alloc ?_ _) | (with_reducible refine Kd.C_drewN ?_ _) | (with_reducible refine Kd.C_drew ?_))); (case side4 => exact HC1_3.out); rintro e w51 ⟨rfl,hb⟩; refine ⟨_,rfl,?_⟩; have n0_ := Aside0.mk (blk_below (g:=gb157) (o:=.cells #[.int .i64 a0_0,.int .i64 a0_1,.slice A0_2 l0_2.length c0_2,.slice A0_3 l0_3.length c0_3,.int .i64 a0_4,.int .i64 a0_5,.int .i64 a0_6,.int .i64 a0_7,.int .i64 a0_8,.int .i64 a0_9] 32 (0,0)) (kA BK157.out) hb); have n1_ := Aside0.mk (blk_below (g:=gb158) (o:=.cells #[.int .i64 a1_0,.int .i64 a1_1,.slice A1_2 l1_2.length c1_2,.slice A1_3 l1_3.length c1_3,.int .i64 a1_4,.int .i64 a1_5,.int .i64 a1_6,.int .i64 a1_7,.int .i64 a1_8,.int .i64 a1_9] 32 (0,0)) (kA BK158.out) hb); have n2_ := Aside0.mk (below_step bA hb); clear BK157; clear BK158; clear HB; have BK157 := n0_; have BK158 := n1_; have HB := n2_; clear n0_ n1_ n2_; (try clear hb); (try clear hb2); (try clear hk); (try clear hi); have hcz52_0 : w51.cell? ⟨gb157,0,none⟩ = some (.int .i64 a0_0) := (blk_cell BK157.out 0).trans rfl; have hcz52_1 : w51.cell? ⟨gb157,1,none⟩ = some (.int .i64 a0_1) := (blk_cell BK157.out 1).trans rfl; have hcz52_2 : w51.cell? ⟨gb157,2,none⟩ = some (.slice A0_2 l0_2.length c0_2) := (blk_cell BK157.out 2).trans rfl; have hcz52_3 : w51.cell? ⟨gb157,3,none⟩ = some (.slice A0_3 l0_3.length c0_3) := (blk_cell BK157.out 3).trans rfl; have hcz52_4 : w51.cell? ⟨gb157,4,none⟩ = some (.int .i64 a0_4) := (blk_cell BK157.out 4).trans rfl; have hcz52_5 : w51.cell? ⟨gb157,5,none⟩ = some (.int .i64 a0_5) := (blk_cell BK157.out 5).trans rfl; have hcz52_6 : w51.cell? ⟨gb157,6,none⟩ = some (.int .i64 a0_6) := (blk_cell BK157.out 6).trans rfl; have hcz52_7 : w51.cell? ⟨gb157,7,none⟩ = some (.int .i64 a0_7) := (blk_cell BK157.out 7).trans rfl; have hcz52_8 : w51.cell? ⟨gb157,8,none⟩ = some (.int .i64 a0_8) := (blk_cell BK157.out 8).trans rfl; have hcz52_9 : w51.cell? ⟨gb157,9,none⟩ = some (.int .i64 a0_9) := (blk_cell BK157.out 9).trans rfl; have hfz52_0 := blk_frozen BK157.out 0; have hfz52_1 := blk_frozen BK157.out 1; have hfz52_2 := blk_frozen BK157.out 2; have hfz52_3 := blk_frozen BK157.out 3; have hfz52_4 := blk_frozen BK157.out 4; have hfz52_5 := blk_frozen BK157.out 5; have hfz52_6 := blk_frozen BK157.out 6; have hfz52_7 := blk_frozen BK157.out 7; have hfz52_8 := blk_frozen BK157.out 8; have hfz52_9 := blk_frozen BK157.out 9; have hcz53_0 : w51.cell? ⟨gb158,0,none⟩ = some (.int .i64 a1_0) := (blk_cell BK158.out 0).trans rfl; have hcz53_1 : w51.cell? ⟨gb158,1,none⟩ = some (.int .i64 a1_1) := (blk_cell BK158.out 1).trans rfl; have hcz53_2 : w51.cell? ⟨gb158,2,none⟩ = some (.slice A1_2 l1_2.length c1_2) := (blk_cell BK158.out 2).trans rfl; have hcz53_3 : w51.cell? ⟨gb158,3,none⟩ = some (.slice A1_3 l1_3.length c1_3) := (blk_cell BK158.out 3).trans rfl; have hcz53_4 : w51.cell? ⟨gb158,4,none⟩ = some (.int .i64 a1_4) := (blk_cell BK158.out 4).trans rfl; have hcz53_5 : w51.cell? ⟨gb158,5,none⟩ = some (.int .i64 a1_5) := (blk_cell BK158.out 5).trans rfl; have hcz53_6 : w51.cell? ⟨gb158,6,none⟩ = some (.int .i64 a1_6) := (blk_cell BK158.out 6).trans rfl; have hcz53_7 : w51.cell? ⟨gb158,7,none⟩ = some (.int .i64 a1_7) := (blk_cell BK158.out 7).trans rfl; have hcz53_8 : w51.cell? ⟨gb158,8,none⟩ = some (.int .i64 a1_8) := (blk_cell BK158.out 8).trans rfl; have hcz53_9 : w51.cell? ⟨gb158,9,none⟩ = some (.int .i64 a1_9) := (blk_cell BK158.out 9).trans rfl; have hfz53_0 := blk_frozen BK158.out 0; have hfz53_1 := blk_frozen BK158.out 1; have hfz53_2 := blk_frozen BK158.out 2; have hfz53_3 := blk_frozen BK158.out 3; have hfz53_4 := blk_frozen BK158.out 4; have hfz53_5 := blk_frozen BK158.out 5; have hfz53_6 := blk_frozen BK158.out 6; have hfz53_7 := blk_frozen BK158.out 7; have hfz53_8 := blk_frozen BK158.out 8; have hfz53_9 := blk_frozen BK158.out 9) | ((with_reducible refine gate_callee (f:=33) rfl ?_); refine goesL_ (some 31) rfl rfl Tryd.func33 (by kernel_rfl) rfl #[.agg #[.int .i64 a0_4,.int .i64 a0_5,.int .i64 a0_6],.agg #[.int .i64 a1_4,.int .i64 a1_5,.int .i64 a1_6]] rfl mA ?_; (with_reducible refine (laws_eqIntA3.calls a0_4 a0_5 a0_6 a1_4 a1_5 a1_6 false _ A9.out).mono ?_); rintro e w54 ⟨rfl,hb⟩; refine ⟨_,rfl,?_⟩; have n0_ := Aside0.mk (blk_below (g:=gb157) (o:=.cells #[.int .i64 a0_0,.int .i64 a0_1,.slice A0_2 l0_2.length c0_2,.slice A0_3 l0_3.length c0_3,.int .i64 a0_4,.int .i64 a0_5,.int .i64 a0_6,.int .i64 a0_7,.int .i64 a0_8,.int .i64 a0_9] 32 (0,0)) (kA BK157.out) hb); have n1_ := Aside0.mk (blk_below (g:=gb158) (o:=.cells #[.int .i64 a1_0,.int .i64 a1_1,.slice A1_2 l1_2.length c1_2,.slice A1_3 l1_3.length c1_3,.int .i64 a1_4,.int .i64 a1_5,.int .i64 a1_6,.int .i64 a1_7,.int .i64 a1_8,.int .i64 a1_9] 32 (0,0)) (kA BK158.out) hb); have n2_ := Aside0.mk (below_step bA hb); clear BK157; clear BK158; clear HB; have BK157 := n0_; have BK158 := n1_; have HB := n2_; clear n0_ n1_ n2_; (try clear hb); (try clear hb2); (try clear hk); (try clear hi)))
      go_ret
      exact ⟨by first | rfl | (simp [errW_none,errW_some] <;> rfl) | (simp [*,errW_none,errW_some] <;> rfl),bA⟩
    ·replace c8 := Bool.eq_false_iff.mpr c8
     subst c8
     rw [if_neg (show ¬ (false = true) by decide)] at H
     obtain rfl := Option.some.inj H
     go_enter Tryd.func10,Tryd.ntmps10
     go_wp2_with (first | ((with_reducible refine gate_dst (N:=2) rfl ?_); refine box_event ?hg (N:=2) ?hd (cs := #[.int .i64 a0_0,.int .i64 a0_1,.slice A0_2 l0_2.length c0_2,.slice A0_3 l0_3.length c0_3,.int .i64 a0_4,.int .i64 a0_5,.int .i64 a0_6,.int .i64 a0_7,.int .i64 a0_8,.int .i64 a0_9]) (t:=32) ?hr ?_; (case hd => rfl); (case hg => rfl); (case hr => first | (go_simp; done) | (go_simp; rfl)); intro gb157 hg w55 hbox hb; have n0_ := Aside0.mk (below_step bA hb); have n1_ := Aside0.mk (hbox); have n2_ := Aside0.mk ((by rw [hg]; exact (below_size bA) : w.heap.size ≤ gb157)); have n3_ := Aside0.mk ((by rw [hg]; exact (below_size bA) : w.heap.size ≤ gb157)); clear HB; have HB := n0_; have BK157 := n1_; have GW157 := n2_; have GE157 := n3_; clear n0_ n1_ n2_ n3_; clear hb hbox hg) | ((with_reducible refine gate_dst (N:=3) rfl ?_); refine box_event ?hg (N:=3) ?hd (cs := #[.int .i64 a1_0,.int .i64 a1_1,.slice A1_2 l1_2.length c1_2,.slice A1_3 l1_3.length c1_3,.int .i64 a1_4,.int .i64 a1_5,.int .i64 a1_6,.int .i64 a1_7,.int .i64 a1_8,.int .i64 a1_9]) (t:=32) ?hr ?_; (case hd => rfl); (case hg => rfl); (case hr => first | (go_simp; done) | (go_simp; rfl)); intro gb158 hg w56 hbox hb; have n0_ := Aside0.mk (blk_below (g:=gb157) (o:=.cells #[.int .i64 a0_0,.int .i64 a0_1,.slice A0_2 l0_2.length c0_2,.slice A0_3 l0_3.length c0_3,.int .i64 a0_4,.int .i64 a0_5,.int .i64 a0_6,.int .i64 a0_7,.int .i64 a0_8,.int .i64 a0_9] 32 (0,0)) (kA BK157.out) hb); have n1_ := Aside0.mk (below_step bA hb); have n2_ := Aside0.mk (hbox); have n3_ := Aside0.mk ((by rw [hg]; exact (below_size bA) : w.heap.size ≤ gb158)); have n4_ := Aside0.mk ((by rw [hg]; exact (below_size bA) : w.heap.size ≤ gb158)); have n5_ := Aside0.mk ((by rw [hg]; exact Nat.ne_of_lt (blk_lt (g:=gb157) (o:=.cells #[.int .i64 a0_0,.int .i64 a0_1,.slice A0_2 l0_2.length c0_2,.slice A0_3 l0_3.length c0_3,.int .i64 a0_4,.int .i64 a0_5,.int .i64 a0_6,.int .i64 a0_7,.int .i64 a0_8,.int .i64 a0_9] 32 (0,0)) (kA BK157.out)) : gb157 ≠ gb158)); have n6_ := Aside0.mk ((by rw [hg]; exact Nat.ne_of_gt (blk_lt (g:=gb157) (o:=.cells #[.int .i64 a0_0,.int .i64 a0_1,.slice A0_2 l0_2.length c0_2,.slice A0_3 l0_3.length c0_3,.int .i64 a0_4,.int .i64 a0_5,.int .i64 a0_6,.int .i64 a0_7,.int .i64 a0_8,.int .i64 a0_9] 32 (0,0)) (kA BK157.out)) : gb158 ≠ gb157)); clear BK157; clear HB; have BK157 := n0_; have HB := n1_; have BK158 := n2_; have GW158 := n3_; have GE158 := n4_; have NB157_158 := n5_; have NB158_157 := n6_; clear n0_ n1_ n2_ n3_ n4_ n5_ n6_; clear hb hbox hg; have hnb57 := NB157_158.out; have hnc57 := NB158_157.out; have hcz58_0 : w56.cell? ⟨gb157,0,none⟩ = some (.int .i64 a0_0) := (blk_cell BK157.out 0).trans rfl; have hcz58_1 : w56.cell? ⟨gb157,1,none⟩ = some (.int .i64 a0_1) := (blk_cell BK157.out 1).trans rfl; have hcz58_2 : w56.cell? ⟨gb157,2,none⟩ = some (.slice A0_2 l0_2.length c0_2) := (blk_cell BK157.out 2).trans rfl; have hcz58_3 : w56.cell? ⟨gb157,3,none⟩ = some (.slice A0_3 l0_3.length c0_3) := (blk_cell BK157.out 3).trans rfl; have hcz58_4 : w56.cell? ⟨gb157,4,none⟩ = some (.int .i64 a0_4) := (blk_cell BK157.out 4).trans rfl; have hcz58_5 : w56.cell? ⟨gb157,5,none⟩ = some (.int .i64 a0_5) := (blk_cell BK157.out 5).trans rfl; have hcz58_6 : w56.cell? ⟨gb157,6,none⟩ = some (.int .i64 a0_6) := (blk_cell BK157.out 6).trans rfl; have hcz58_7 : w56.cell? ⟨gb157,7,none⟩ = some (.int .i64 a0_7) := (blk_cell BK157.out 7).trans rfl; have hcz58_8 : w56.cell? ⟨gb157,8,none⟩ = some (.int .i64 a0_8) := (blk_cell BK157.out 8).trans rfl; have hcz58_9 : w56.cell? ⟨gb157,9,none⟩ = some (.int .i64 a0_9) := (blk_cell BK157.out 9).trans rfl; have hfz58_0 := blk_frozen BK157.out 0; have hfz58_1 := blk_frozen BK157.out 1; have hfz58_2 := blk_frozen BK157.out 2; have hfz58_3 := blk_frozen BK157.out 3; have hfz58_4 := blk_frozen BK157.out 4; have hfz58_5 := blk_frozen BK157.out 5; have hfz58_6 := blk_frozen BK157.out 6; have hfz58_7 := blk_frozen BK157.out 7; have hfz58_8 := blk_frozen BK157.out 8; have hfz58_9 := blk_frozen BK157.out 9; have hcz59_0 : w56.cell? ⟨gb158,0,none⟩ = some (.int .i64 a1_0) := (blk_cell BK158.out 0).trans rfl; have hcz59_1 : w56.cell? ⟨gb158,1,none⟩ = some (.int .i64 a1_1) := (blk_cell BK158.out 1).trans rfl; have hcz59_2 : w56.cell? ⟨gb158,2,none⟩ = some (.slice A1_2 l1_2.length c1_2) := (blk_cell BK158.out 2).trans rfl; have hcz59_3 : w56.cell? ⟨gb158,3,none⟩ = some (.slice A1_3 l1_3.length c1_3) := (blk_cell BK158.out 3).trans rfl; have hcz59_4 : w56.cell? ⟨gb158,4,none⟩ = some (.int .i64 a1_4) := (blk_cell BK158.out 4).trans rfl; have hcz59_5 : w56.cell? ⟨gb158,5,none⟩ = some (.int .i64 a1_5) := (blk_cell BK158.out 5).trans rfl; have hcz59_6 : w56.cell? ⟨gb158,6,none⟩ = some (.int .i64 a1_6) := (blk_cell BK158.out 6).trans rfl; have hcz59_7 : w56.cell? ⟨gb158,7,none⟩ = some (.int .i64 a1_7) := (blk_cell BK158.out 7).trans rfl; have hcz59_8 : w56.cell? ⟨gb158,8,none⟩ = some (.int .i64 a1_8) := (blk_cell BK158.out 8).trans rfl; have hcz59_9 : w56.cell? ⟨gb158,9,none⟩ = some (.int .i64 a1_9) := (blk_cell BK158.out 9).trans rfl; have hfz59_0 := blk_frozen BK158.out 0; have hfz59_1 := blk_frozen BK158.out 1; have hfz59_2 := blk_frozen BK158.out 2; have hfz59_3 := blk_frozen BK158.out 3; have hfz59_4 := blk_frozen BK158.out 4; have hfz59_5 := blk_frozen BK158.out 5; have hfz59_6 := blk_frozen BK158.out 6; have hfz59_7 := blk_frozen BK158.out 7; have hfz59_8 := blk_frozen BK158.out 8; have hfz59_9 := blk_frozen BK158.out 9) | ((with_reducible refine gate_callee (f:=31) rfl ?_); refine goesL_ (some 19) rfl rfl Tryd.func31 (by kernel_rfl) rfl #[.slice A0_2 l0_2.length c0_2,.slice A1_2 l1_2.length c1_2] rfl mA ?_; (with_reducible refine (laws_eqEntryS.calls k _ _ l0_2 _ _ l1_2 true _ ?side1 ?side2 ?side3 ?side4 A5.out).mono ?_); (case side1 => repeat (first | exact (Kd.C_below HR0_2.out HB.out) | (with_reducible refine Kd.C_alloc ?_ _) | (with_reducible refine Kd.C_drewN ?_ _) | (with_reducible refine Kd.C_drew ?_))); (case side2 => exact HC0_2.out); (case side3 => repeat (first | exact (Kd.C_below HR1_2.out HB.out) | (with_reducible refine Kd.C_alloc ?_ _) | (with_reducible refine Kd.C_drewN ?_ _) | (with_reducible refine Kd.C_drew ?_))); (case side4 => exact HC1_2.out); rintro e w60 ⟨rfl,hb⟩; refine ⟨_,rfl,?_⟩; have n0_ := Aside0.mk (blk_below (g:=gb157) (o:=.cells #[.int .i64 a0_0,.int .i64 a0_1,.slice A0_2 l0_2.length c0_2,.slice A0_3 l0_3.length c0_3,.int .i64 a0_4,.int .i64 a0_5,.int .i64 a0_6,.int .i64 a0_7,.int .i64 a0_8,.int .i64 a0_9] 32 (0,0)) (kA BK157.out) hb); have n1_ := Aside0.mk (blk_below (g:=gb158) (o:=.cells #[.int .i64 a1_0,.int .i64 a1_1,.slice A1_2 l1_2.length c1_2,.slice A1_3 l1_3.length c1_3,.int .i64 a1_4,.int .i64 a1_5,.int .i64 a1_6,.int .i64 a1_7,.int .i64 a1_8,.int .i64 a1_9] 32 (0,0)) (kA BK158.out) hb); have n2_ := Aside0.mk (below_step bA hb); clear BK157; clear BK158; clear HB; have BK157 := n0_; have BK158 := n1_; have HB := n2_; clear n0_ n1_ n2_; (try clear hb); (try clear hb2); (try clear hk); (try clear hi); have hcz61_0 : w60.cell? ⟨gb157,0,none⟩ = some (.int .i64 a0_0) := (blk_cell BK157.out 0).trans rfl; have hcz61_1 : w60.cell? ⟨gb157,1,none⟩ = some (.int .i64 a0_1) := (blk_cell BK157.out 1).trans rfl; have hcz61_2 : w60.cell? ⟨gb157,2,none⟩ = some (.slice A0_2 l0_2.length c0_2) := (blk_cell BK157.out 2).trans rfl; have hcz61_3 : w60.cell? ⟨gb157,3,none⟩ = some (.slice A0_3 l0_3.length c0_3) := (blk_cell BK157.out 3).trans rfl; have hcz61_4 : w60.cell? ⟨gb157,4,none⟩ = some (.int .i64 a0_4) := (blk_cell BK157.out 4).trans rfl; have hcz61_5 : w60.cell? ⟨gb157,5,none⟩ = some (.int .i64 a0_5) := (blk_cell BK157.out 5).trans rfl; have hcz61_6 : w60.cell? ⟨gb157,6,none⟩ = some (.int .i64 a0_6) := (blk_cell BK157.out 6).trans rfl; have hcz61_7 : w60.cell? ⟨gb157,7,none⟩ = some (.int .i64 a0_7) := (blk_cell BK157.out 7).trans rfl; have hcz61_8 : w60.cell? ⟨gb157,8,none⟩ = some (.int .i64 a0_8) := (blk_cell BK157.out 8).trans rfl; have hcz61_9 : w60.cell? ⟨gb157,9,none⟩ = some (.int .i64 a0_9) := (blk_cell BK157.out 9).trans rfl; have hfz61_0 := blk_frozen BK157.out 0; have hfz61_1 := blk_frozen BK157.out 1; have hfz61_2 := blk_frozen BK157.out 2; have hfz61_3 := blk_frozen BK157.out 3; have hfz61_4 := blk_frozen BK157.out 4; have hfz61_5 := blk_frozen BK157.out 5; have hfz61_6 := blk_frozen BK157.out 6; have hfz61_7 := blk_frozen BK157.out 7; have hfz61_8 := blk_frozen BK157.out 8; have hfz61_9 := blk_frozen BK157.out 9; have hcz62_0 : w60.cell? ⟨gb158,0,none⟩ = some (.int .i64 a1_0) := (blk_cell BK158.out 0).trans rfl; have hcz62_1 : w60.cell? ⟨gb158,1,none⟩ = some (.int .i64 a1_1) := (blk_cell BK158.out 1).trans rfl; have hcz62_2 : w60.cell? ⟨gb158,2,none⟩ = some (.slice A1_2 l1_2.length c1_2) := (blk_cell BK158.out 2).trans rfl; have hcz62_3 : w60.cell? ⟨gb158,3,none⟩ = some (.slice A1_3 l1_3.length c1_3) := (blk_cell BK158.out 3).trans rfl; have hcz62_4 : w60.cell? ⟨gb158,4,none⟩ = some (.int .i64 a1_4) := (blk_cell BK158.out 4).trans rfl; have hcz62_5 : w60.cell? ⟨gb158,5,none⟩ = some (.int .i64 a1_5) := (blk_cell BK158.out 5).trans rfl; have hcz62_6 : w60.cell? ⟨gb158,6,none⟩ = some (.int .i64 a1_6) := (blk_cell BK158.out 6).trans rfl; have hcz62_7 : w60.cell? ⟨gb158,7,none⟩ = some (.int .i64 a1_7) := (blk_cell BK158.out 7).trans rfl; have hcz62_8 : w60.cell? ⟨gb158,8,none⟩ = some (.int .i64 a1_8) := (blk_cell BK158.out 8).trans rfl; have hcz62_9 : w60.cell? ⟨gb158,9,none⟩ = some (.int .i64 a1_9) := (blk_cell BK158.out 9).trans rfl; have hfz62_0 := blk_frozen BK158.out 0; have hfz62_1 := blk_frozen BK158.out 1; have hfz62_2 := blk_frozen BK158.out 2; have hfz62_3 := blk_frozen BK158.out 3; have hfz62_4 := blk_frozen BK158.out 4; have hfz62_5 := blk_frozen BK158.out 5; have hfz62_6 := blk_frozen BK158.out 6; have hfz62_7 := blk_frozen BK158.out 7; have hfz62_8 := blk_frozen BK158.out 8; have hfz62_9 := blk_frozen BK158.out 9) | ((with_reducible refine gate_callee (f:=32) rfl ?_); refine goesL_ (some 25) rfl rfl Tryd.func32 (by kernel_rfl) rfl #[.slice A0_3 l0_3.length c0_3,.slice A1_3 l1_3.length c1_3] rfl mA ?_; (with_reducible refine (laws_eqTombS.calls k _ _ l0_3 _ _ l1_3 false _ ?side1 ?side2 ?side3 ?side4 A7.out).mono ?_); (case side1 => repeat (first | exact (Kd.C_below HR0_3.out HB.out) | (with_reducible refine Kd.C_alloc ?_ _) | (with_reducible refine Kd.C_drewN ?_ _) | (with_reducible refine Kd.C_drew ?_))); (case side2 => exact HC0_3.out); (case side3 => repeat (first | exact (Kd.C_below HR1_3.out HB.out) | (with_reducible refine Kd.C_alloc ?_ _) | (with_reducible refine Kd.C_drewN ?_ _) | (with_reducible refine Kd.C_drew ?_))); (case side4 => exact HC1_3.out); rintro e w63 ⟨rfl,hb⟩; refine ⟨_,rfl,?_⟩; have n0_ := Aside0.mk (blk_below (g:=gb157) (o:=.cells #[.int .i64 a0_0,.int .i64 a0_1,.slice A0_2 l0_2.length c0_2,.slice A0_3 l0_3.length c0_3,.int .i64 a0_4,.int .i64 a0_5,.int .i64 a0_6,.int .i64 a0_7,.int .i64 a0_8,.int .i64 a0_9] 32 (0,0)) (kA BK157.out) hb); have n1_ := Aside0.mk (blk_below (g:=gb158) (o:=.cells #[.int .i64 a1_0,.int .i64 a1_1,.slice A1_2 l1_2.length c1_2,.slice A1_3 l1_3.length c1_3,.int .i64 a1_4,.int .i64 a1_5,.int .i64 a1_6,.int .i64 a1_7,.int .i64 a1_8,.int .i64 a1_9] 32 (0,0)) (kA BK158.out) hb); have n2_ := Aside0.mk (below_step bA hb); clear BK157; clear BK158; clear HB; have BK157 := n0_; have BK158 := n1_; have HB := n2_; clear n0_ n1_ n2_; (try clear hb); (try clear hb2); (try clear hk); (try clear hi)))
     go_ret
     exact ⟨by first | rfl | (simp [errW_none,errW_some] <;> rfl) | (simp [*,errW_none,errW_some] <;> rfl),bA⟩
   ·replace c6 := Bool.eq_false_iff.mpr c6
    subst c6
    rw [if_neg (show ¬ (false = true) by decide)] at H
    obtain rfl := Option.some.inj H
    go_enter Tryd.func10,Tryd.ntmps10
    go_wp2_with (first | ((with_reducible refine gate_dst (N:=2) rfl ?_); refine box_event ?hg (N:=2) ?hd (cs := #[.int .i64 a0_0,.int .i64 a0_1,.slice A0_2 l0_2.length c0_2,.slice A0_3 l0_3.length c0_3,.int .i64 a0_4,.int .i64 a0_5,.int .i64 a0_6,.int .i64 a0_7,.int .i64 a0_8,.int .i64 a0_9]) (t:=32) ?hr ?_; (case hd => rfl); (case hg => rfl); (case hr => first | (go_simp; done) | (go_simp; rfl)); intro gb157 hg w64 hbox hb; have n0_ := Aside0.mk (below_step bA hb); have n1_ := Aside0.mk (hbox); have n2_ := Aside0.mk ((by rw [hg]; exact (below_size bA) : w.heap.size ≤ gb157)); have n3_ := Aside0.mk ((by rw [hg]; exact (below_size bA) : w.heap.size ≤ gb157)); clear HB; have HB := n0_; have BK157 := n1_; have GW157 := n2_; have GE157 := n3_; clear n0_ n1_ n2_ n3_; clear hb hbox hg) | ((with_reducible refine gate_dst (N:=3) rfl ?_); refine box_event ?hg (N:=3) ?hd (cs := #[.int .i64 a1_0,.int .i64 a1_1,.slice A1_2 l1_2.length c1_2,.slice A1_3 l1_3.length c1_3,.int .i64 a1_4,.int .i64 a1_5,.int .i64 a1_6,.int .i64 a1_7,.int .i64 a1_8,.int .i64 a1_9]) (t:=32) ?hr ?_; (case hd => rfl); (case hg => rfl); (case hr => first | (go_simp; done) | (go_simp; rfl)); intro gb158 hg w65 hbox hb; have n0_ := Aside0.mk (blk_below (g:=gb157) (o:=.cells #[.int .i64 a0_0,.int .i64 a0_1,.slice A0_2 l0_2.length c0_2,.slice A0_3 l0_3.length c0_3,.int .i64 a0_4,.int .i64 a0_5,.int .i64 a0_6,.int .i64 a0_7,.int .i64 a0_8,.int .i64 a0_9] 32 (0,0)) (kA BK157.out) hb); have n1_ := Aside0.mk (below_step bA hb); have n2_ := Aside0.mk (hbox); have n3_ := Aside0.mk ((by rw [hg]; exact (below_size bA) : w.heap.size ≤ gb158)); have n4_ := Aside0.mk ((by rw [hg]; exact (below_size bA) : w.heap.size ≤ gb158)); have n5_ := Aside0.mk ((by rw [hg]; exact Nat.ne_of_lt (blk_lt (g:=gb157) (o:=.cells #[.int .i64 a0_0,.int .i64 a0_1,.slice A0_2 l0_2.length c0_2,.slice A0_3 l0_3.length c0_3,.int .i64 a0_4,.int .i64 a0_5,.int .i64 a0_6,.int .i64 a0_7,.int .i64 a0_8,.int .i64 a0_9] 32 (0,0)) (kA BK157.out)) : gb157 ≠ gb158)); have n6_ := Aside0.mk ((by rw [hg]; exact Nat.ne_of_gt (blk_lt (g:=gb157) (o:=.cells #[.int .i64 a0_0,.int .i64 a0_1,.slice A0_2 l0_2.length c0_2,.slice A0_3 l0_3.length c0_3,.int .i64 a0_4,.int .i64 a0_5,.int .i64 a0_6,.int .i64 a0_7,.int .i64 a0_8,.int .i64 a0_9] 32 (0,0)) (kA BK157.out)) : gb158 ≠ gb157)); clear BK157; clear HB; have BK157 := n0_; have HB := n1_; have BK158 := n2_; have GW158 := n3_; have GE158 := n4_; have NB157_158 := n5_; have NB158_157 := n6_; clear n0_ n1_ n2_ n3_ n4_ n5_ n6_; clear hb hbox hg; have hnb66 := NB157_158.out; have hnc66 := NB158_157.out; have hcz67_0 : w65.cell? ⟨gb157,0,none⟩ = some (.int .i64 a0_0) := (blk_cell BK157.out 0).trans rfl; have hcz67_1 : w65.cell? ⟨gb157,1,none⟩ = some (.int .i64 a0_1) := (blk_cell BK157.out 1).trans rfl; have hcz67_2 : w65.cell? ⟨gb157,2,none⟩ = some (.slice A0_2 l0_2.length c0_2) := (blk_cell BK157.out 2).trans rfl; have hcz67_3 : w65.cell? ⟨gb157,3,none⟩ = some (.slice A0_3 l0_3.length c0_3) := (blk_cell BK157.out 3).trans rfl; have hcz67_4 : w65.cell? ⟨gb157,4,none⟩ = some (.int .i64 a0_4) := (blk_cell BK157.out 4).trans rfl; have hcz67_5 : w65.cell? ⟨gb157,5,none⟩ = some (.int .i64 a0_5) := (blk_cell BK157.out 5).trans rfl; have hcz67_6 : w65.cell? ⟨gb157,6,none⟩ = some (.int .i64 a0_6) := (blk_cell BK157.out 6).trans rfl; have hcz67_7 : w65.cell? ⟨gb157,7,none⟩ = some (.int .i64 a0_7) := (blk_cell BK157.out 7).trans rfl; have hcz67_8 : w65.cell? ⟨gb157,8,none⟩ = some (.int .i64 a0_8) := (blk_cell BK157.out 8).trans rfl; have hcz67_9 : w65.cell? ⟨gb157,9,none⟩ = some (.int .i64 a0_9) := (blk_cell BK157.out 9).trans rfl; have hfz67_0 := blk_frozen BK157.out 0; have hfz67_1 := blk_frozen BK157.out 1; have hfz67_2 := blk_frozen BK157.out 2; have hfz67_3 := blk_frozen BK157.out 3; have hfz67_4 := blk_frozen BK157.out 4; have hfz67_5 := blk_frozen BK157.out 5; have hfz67_6 := blk_frozen BK157.out 6; have hfz67_7 := blk_frozen BK157.out 7; have hfz67_8 := blk_frozen BK157.out 8; have hfz67_9 := blk_frozen BK157.out 9; have hcz68_0 : w65.cell? ⟨gb158,0,none⟩ = some (.int .i64 a1_0) := (blk_cell BK158.out 0).trans rfl; have hcz68_1 : w65.cell? ⟨gb158,1,none⟩ = some (.int .i64 a1_1) := (blk_cell BK158.out 1).trans rfl; have hcz68_2 : w65.cell? ⟨gb158,2,none⟩ = some (.slice A1_2 l1_2.length c1_2) := (blk_cell BK158.out 2).trans rfl; have hcz68_3 : w65.cell? ⟨gb158,3,none⟩ = some (.slice A1_3 l1_3.length c1_3) := (blk_cell BK158.out 3).trans rfl; have hcz68_4 : w65.cell? ⟨gb158,4,none⟩ = some (.int .i64 a1_4) := (blk_cell BK158.out 4).trans rfl; have hcz68_5 : w65.cell? ⟨gb158,5,none⟩ = some (.int .i64 a1_5) := (blk_cell BK158.out 5).trans rfl; have hcz68_6 : w65.cell? ⟨gb158,6,none⟩ = some (.int .i64 a1_6) := (blk_cell BK158.out 6).trans rfl; have hcz68_7 : w65.cell? ⟨gb158,7,none⟩ = some (.int .i64 a1_7) := (blk_cell BK158.out 7).trans rfl; have hcz68_8 : w65.cell? ⟨gb158,8,none⟩ = some (.int .i64 a1_8) := (blk_cell BK158.out 8).trans rfl; have hcz68_9 : w65.cell? ⟨gb158,9,none⟩ = some (.int .i64 a1_9) := (blk_cell BK158.out 9).trans rfl; have hfz68_0 := blk_frozen BK158.out 0; have hfz68_1 := blk_frozen BK158.out 1; have hfz68_2 := blk_frozen BK158.out 2; have hfz68_3 := blk_frozen BK158.out 3; have hfz68_4 := blk_frozen BK158.out 4; have hfz68_5 := blk_frozen BK158.out 5; have hfz68_6 := blk_frozen BK158.out 6; have hfz68_7 := blk_frozen BK158.out 7; have hfz68_8 := blk_frozen BK158.out 8; have hfz68_9 := blk_frozen BK158.out 9) | ((with_reducible refine gate_callee (f:=31) rfl ?_); refine goesL_ (some 19) rfl rfl Tryd.func31 (by kernel_rfl) rfl #[.slice A0_2 l0_2.length c0_2,.slice A1_2 l1_2.length c1_2] rfl mA ?_; (with_reducible refine (laws_eqEntryS.calls k _ _ l0_2 _ _ l1_2 false _ ?side1 ?side2 ?side3 ?side4 A5.out).mono ?_); (case side1 => repeat (first | exact (Kd.C_below HR0_2.out HB.out) | (with_reducible refine Kd.C_alloc ?_ _) | (with_reducible refine Kd.C_drewN ?_ _) | (with_reducible refine Kd.C_drew ?_))); (case side2 => exact HC0_2.out); (case side3 => repeat (first | exact (Kd.C_below HR1_2.out HB.out) | (with_reducible refine Kd.C_alloc ?_ _) | (with_reducible refine Kd.C_drewN ?_ _) | (with_reducible refine Kd.C_drew ?_))); (case side4 => exact HC1_2.out); rintro e w69 ⟨rfl,hb⟩; refine ⟨_,rfl,?_⟩; have n0_ := Aside0.mk (blk_below (g:=gb157) (o:=.cells #[.int .i64 a0_0,.int .i64 a0_1,.slice A0_2 l0_2.length c0_2,.slice A0_3 l0_3.length c0_3,.int .i64 a0_4,.int .i64 a0_5,.int .i64 a0_6,.int .i64 a0_7,.int .i64 a0_8,.int .i64 a0_9] 32 (0,0)) (kA BK157.out) hb); have n1_ := Aside0.mk (blk_below (g:=gb158) (o:=.cells #[.int .i64 a1_0,.int .i64 a1_1,.slice A1_2 l1_2.length c1_2,.slice A1_3 l1_3.length c1_3,.int .i64 a1_4,.int .i64 a1_5,.int .i64 a1_6,.int .i64 a1_7,.int .i64 a1_8,.int .i64 a1_9] 32 (0,0)) (kA BK158.out) hb); have n2_ := Aside0.mk (below_step bA hb); clear BK157; clear BK158; clear HB; have BK157 := n0_; have BK158 := n1_; have HB := n2_; clear n0_ n1_ n2_; (try clear hb); (try clear hb2); (try clear hk); (try clear hi)))
    go_ret
    exact ⟨by first | rfl | (simp [errW_none,errW_some] <;> rfl) | (simp [*,errW_none,errW_some] <;> rfl),bA⟩
  ·rw [if_neg c4] at H
   have c4b0 : (a0_1 == a1_1) = false := beq_eq_false_iff_ne.mpr c4
   have c4b1 : (a0_1 != a1_1) = true := bne_iff_ne.mpr c4
   obtain rfl := Option.some.inj H
   go_enter Tryd.func10,Tryd.ntmps10
   go_wp2
   go_ret
   exact ⟨by first | rfl | (simp [errW_none,errW_some] <;> rfl) | (simp [*,errW_none,errW_some] <;> rfl),bA⟩
 ·rw [if_neg c3] at H
  have c3b0 : (a0_0 == a1_0) = false := beq_eq_false_iff_ne.mpr c3
  have c3b1 : (a0_0 != a1_0) = true := bne_iff_ne.mpr c3
  obtain rfl := Option.some.inj H
  go_enter Tryd.func10,Tryd.ntmps10
  go_wp2
  go_ret
  exact ⟨by first | rfl | (simp [errW_none,errW_some] <;> rfl) | (simp [*,errW_none,errW_some] <;> rfl),bA⟩

/-! ### spec_l01In: function 18 -/
def spec_l01In.f (a0 : Int) (a1 : Int) (a2 : Int) : Option (Bool) := if a1 ≤ a0 then (some (decide (a0 ≤ a2))) else (some false)
set_option maxHeartbeats 8000000 in
set_option maxRecDepth 100000 in
theorem spec_l01In.calls (a0 : Int) (a1 : Int) (a2 : Int) (r : Bool) (w : World) (h : spec_l01In.f a0 a1 a2 = some r) :
  Calls Tryd.prog 18 #[.int .i64 a0,.int .i64 a1,.int .i64 a2] w fun e w' => e = .returned (.bool r) ∧ Drawn0 w w' := by
 have H : (if a1 ≤ a0 then (some (decide (a0 ≤ a2))) else (some false)) = some r := h
 clear h
 by_cases c4 : a1 ≤ a0
 ·rw [if_pos c4] at H
  have c4b0 : decide (a1 ≤ a0) = true := decide_eq_true c4
  clear c4
  obtain rfl := Option.some.inj H
  go_enter Tryd.func18,Tryd.ntmps18
  go_wp2
  go_ret
  exact ⟨by first | rfl | (simp; done) | (simp [*]; done),by repeat (first | exact Drawn0.refl _ | apply Drawn0.step)⟩
 ·rw [if_neg c4] at H
  have c4b0 : decide (a1 ≤ a0) = false := decide_eq_false c4
  clear c4
  obtain rfl := Option.some.inj H
  go_enter Tryd.func18,Tryd.ntmps18
  go_wp2
  go_ret
  exact ⟨by first | rfl | (simp; done) | (simp [*]; done),by repeat (first | exact Drawn0.refl _ | apply Drawn0.step)⟩

/-! ### spec_l00Cut: function 44 -/
def spec_l00Cut.l0 : Nat → ByteArray → Int → List ByteArray → Int → Int → Option (List ByteArray)
 | 0,_,_,_,_,_ => none
 | k + 1,x0,x1,x5,x6,x7 => if x7 < (x0.size : Int) then (if 0 ≤ x7 then (if (bt x0 x7) = x1 then (if 0 ≤ x6 then (if x6 ≤ x7 then (if x7 ≤ (x0.size : Int) then (if x5.length < 8796093022208 then (spec_l00Cut.l0 k x0 x1 (x5 ++ [x0.extract (x6 : Int).toNat (x7 : Int).toNat]) (wrap64 (x7 + 1)) (wrap64 (x7 + 1))) else (none)) else (none)) else (none)) else (none)) else (spec_l00Cut.l0 k x0 x1 x5 x6 (wrap64 (x7 + 1)))) else (none)) else (if 0 ≤ x6 then (if x6 ≤ (x0.size : Int) then (if x5.length < 8796093022208 then (some (x5 ++ [x0.extract (x6 : Int).toNat x0.size])) else (none)) else (none)) else (none))
def spec_l00Cut.f (k : Nat) (a0 : ByteArray) (a1 : Int) : Option (List ByteArray) := spec_l00Cut.l0 k a0 a1 (([] : List ByteArray)) 0 0
theorem spec_l00Cut.mono_l : ∀ k,(∀ y0 y1 y2 y3 y4,LeO (spec_l00Cut.l0 k y0 y1 y2 y3 y4) (spec_l00Cut.l0 (k + 1) y0 y1 y2 y3 y4))
 | 0 => fun _ _ _ _ _ r h => by simp [spec_l00Cut.l0] at h
 | k + 1 => by
  have ih0 := spec_l00Cut.mono_l k
  ·intro y0 y1 y2 y3 y4
   unfold spec_l00Cut.l0
   repeat' first
   | (with_reducible exact ih0 _ _ _ _ _)
   | (with_reducible exact LeO.refl _)
   | (with_reducible exact LeO.none _)
   | (with_reducible refine LeO.ite ?_ ?_)
   | (with_reducible refine LeO.bind ?_ (fun _ => ?_))
   | exact ih0 _ _ _ _ _
   | exact LeO.none _
   | refine LeO.ite ?_ ?_
   | refine LeO.bind ?_ (fun _ => ?_)
theorem spec_l00Cut.mono : ∀ a0 a1 k,LeO (spec_l00Cut.f k a0 a1) (spec_l00Cut.f (k + 1) a0 a1) := by
 intro a0 a1 k
 have ih0 := spec_l00Cut.mono_l k
 unfold spec_l00Cut.f
 repeat' first
   | (with_reducible exact ih0 _ _ _ _ _)
   | (with_reducible exact LeO.refl _)
   | (with_reducible exact LeO.none _)
   | (with_reducible refine LeO.ite ?_ ?_)
   | (with_reducible refine LeO.bind ?_ (fun _ => ?_))
   | exact ih0 _ _ _ _ _
   | exact LeO.none _
   | refine LeO.ite ?_ ?_
   | refine LeO.bind ?_ (fun _ => ?_)
set_option maxHeartbeats 8000000 in
set_option maxRecDepth 100000 in
theorem spec_l00Cut.calls (k : Nat) (a0 : ByteArray) (a1 : Int) (r : List ByteArray) (w : World) (h : spec_l00Cut.f k a0 a1 = some r) :
  Calls Tryd.prog 44 #[.string a0,.int .u8 a1] w fun e w' => ∃ v0_ : Value,e = .returned (v0_) ∧ Kd.R Kd.string 9 w' w.heap.size (fun _ => True) v0_ r ∧ Below w.heap.size w w' := by
 have HB := Aside0.mk (Below.refl w.heap.size w)
 have H : (spec_l00Cut.l0 k a0 a1 (([] : List ByteArray)) 0 0) = some r := h
 clear h
 obtain ⟨y163,hy163⟩ : ∃ y_ : List ByteArray,y_ = (([] : List ByteArray)) := ⟨_,rfl⟩
 replace H : (spec_l00Cut.l0 k a0 a1 y163 0 0) = some r := by first | (rw [hy163]; with_reducible exact H) | (have H2_ := (Option.bind_some _ _).symm.trans H; rw [hy163]; with_reducible exact H2_) | (have H2_ := (Option.bind_some _ _).symm.trans H; with_reducible exact H2_) | with_reducible exact H | (rw [hy163]; exact H) | exact H
 have Ny163 := Aside0.mk hy163
 clear hy163
 have H' := Aside0.mk H
 clear H
 go_enter Tryd.func44,Tryd.ntmps44
 go_wp2_with (first | ((with_reducible refine gate_dst (N:=8) rfl ?_); refine Kd.R_lit Kd.string _ 9 ?hg (N:=8) ?hd (xs := ([] : List ByteArray)) (inner := []) (ok := fun _ => True) (okp := fun _ => True) ?hr ?hp (fun _ hk => hk) trivial (Below.refl _ _) (Nat.le_refl _) (by simp) ?_; (case hd => rfl); (case hg => rfl); (case hr => first | (go_simp; done) | (go_simp; rfl)); (case hp => exact (Reps.none _ _)); intro v164 w3 ho4 hb hg_ hnew_; clear hg_ hnew_; (first | rw [← Ny163.out] at ho4 | (simp only [Int.reduceToNat] at ho4; rw [← Ny163.out] at ho4)); have n0_ := Aside0.mk (Kd.R_lower ho4 (below_size bA)); have n1_ := Aside0.mk (below_step bA hb); clear HB; have HO165 := n0_; have HB := n1_; clear n0_ n1_; clear hb ho4))
 go_loopg [5,6,7] k (fun kq v5 v6 v7 w' => ∃ (x5_1 : List ByteArray) (x6_1 : Int) (x7_1 : Int),v6 = .int .i64 x6_1 ∧ v7 = .int .i64 x7_1 ∧ Aside0 (spec_l00Cut.l0 kq a0 a1 x5_1 x6_1 x7_1 = some r) ∧ Aside0 (kq ≤ k) ∧ Aside0 (Kd.R Kd.string 9 w' w.heap.size (fun _ => True) v5 x5_1) ∧ Aside0 (Below w.heap.size w w'))
 case atStart => exact ⟨(y163),(0),(0),(by first | rfl | (simp; done) | (simp [*]; done)),(by first | rfl | (simp; done) | (simp [*]; done)),H',⟨Nat.le_refl _⟩,⟨rA HO165.out⟩,⟨bA⟩⟩
 case round =>
  clear H'
  try clear p2
  try clear c4
  obtain ⟨x5_1,x6_1,x7_1,rfl,rfl,HA,HK1,HO_5,HB⟩ := hrel
  cases gk with
  | zero => exact absurd HA.out (by simp [spec_l00Cut.l0])
  | succ k1 =>
   have H := HA.out
   clear HA
   simp only [spec_l00Cut.l0] at H
   by_cases c5 : x7_1 < (a0.size : Int)
   ·rw [if_pos c5] at H
    have c5b0 : decide (x7_1 < (a0.size : Int)) = true := decide_eq_true c5
    clear c5
    by_cases c6 : 0 ≤ x7_1
    ·rw [if_pos c6] at H
     have c6b0 : decide (0 ≤ x7_1) = true := decide_eq_true c6
     clear c6
     by_cases c8 : (bt a0 x7_1) = a1
     ·rw [if_pos c8] at H
      have c8b0 : ((bt a0 x7_1) == a1) = true := beq_iff_eq.mpr c8
      have c8b1 : ((bt a0 x7_1) != a1) = false := bne_eq_false_iff_eq.mpr c8
      clear c8
      by_cases c9 : 0 ≤ x6_1
      ·rw [if_pos c9] at H
       have c9b0 := eq_true c9
       have c9b1 : decide (0 ≤ x6_1) = true := decide_eq_true c9
       clear c9
       by_cases c10 : x6_1 ≤ x7_1
       ·rw [if_pos c10] at H
        have c10b0 := eq_true c10
        have c10b1 : decide (x6_1 ≤ x7_1) = true := decide_eq_true c10
        clear c10
        by_cases c11 : x7_1 ≤ (a0.size : Int)
        ·rw [if_pos c11] at H
         have c11b0 := eq_true c11
         have c11b1 : decide (x7_1 ≤ (a0.size : Int)) = true := decide_eq_true c11
         clear c11
         by_cases c12 : x5_1.length < 8796093022208
         ·rw [if_pos c12] at H
          have LMc12 := Aside0.mk c12
          clear c12
          obtain ⟨y166,hy166⟩ : ∃ y_ : List ByteArray,y_ = (x5_1 ++ [a0.extract (x6_1 : Int).toNat (x7_1 : Int).toNat]) := ⟨_,rfl⟩
          replace H : (spec_l00Cut.l0 k1 a0 a1 y166 (wrap64 (x7_1 + 1)) (wrap64 (x7_1 + 1))) = some r := by first | (rw [hy166]; with_reducible exact H) | (have H2_ := (Option.bind_some _ _).symm.trans H; rw [hy166]; with_reducible exact H2_) | (have H2_ := (Option.bind_some _ _).symm.trans H; with_reducible exact H2_) | with_reducible exact H | (rw [hy166]; exact H) | exact H
          have Ny166 := Aside0.mk hy166
          clear hy166
          have H' := Aside0.mk H
          clear H
          have p7 : 0 ≤ (x7_1 : Int) := of_decide_eq_true (by first | (with_reducible assumption) | assumption)
          have q7 : x7_1 < (a0.size : Int) := of_decide_eq_true (by first | (with_reducible assumption) | assumption)
          have hx7 := bt_at a0 x7_1
          replace p7 := eq_true p7
          replace q7 := eq_true q7
          go_wp2_with (first | ((with_reducible refine gate_builtin (b:=.append) (xs := #[.tmp 20,.tmp 25]) rfl ?_); at_builtin; refine Kd.R_append Kd.string (w0 := w) w.heap.size rfl (.tmp 20) (.tmp 25) 47 9 (.string ⟨#[]⟩) 16 rfl Tryd.underlying47 info9 rfl (by decide) (by omega) u5 x5_1 (a0.extract (x6_1 : Int).toNat (x7_1 : Int).toNat) [.string (a0.extract (x6_1 : Int).toNat (x7_1 : Int).toNat)] (fun _ => True) (fun _ => False) rfl rfl ?aP (fun _ hk => hk.elim) ?aF ?aO ?aB ?aS ?aL ?_; (case aP => exact rfl); (case aB => exact bA); (case aF => exact (fun _ _ => trivial)); (case aO => exact (rA HO_5.out)); (case aS => exact (below_size bA)); (case aL => have := LMc12.out; omega); intro v167 w13 ho hb hg hat; rw [← Ny166.out] at ho; have n0_ := Aside0.mk (hb); have n1_ := Aside0.mk (ho); clear HB; clear HO_5; have HB := n0_; have HO168 := n1_; clear n0_ n1_; clear ho hb hg hat))
          go_roundg k1
          case measure => have := HK1.out; omega
          case rel => exact ⟨(y166),(wrap64 (x7_1 + 1)),(wrap64 (x7_1 + 1)),(by first | rfl | (simp; done) | (simp [*]; done)),(by first | rfl | (simp; done) | (simp [*]; done)),H',⟨by have := HK1.out; omega⟩,⟨rA HO168.out⟩,⟨bA⟩⟩
         ·rw [if_neg c12] at H
          exact absurd H (by simp)
        ·rw [if_neg c11] at H
         exact absurd H (by simp)
       ·rw [if_neg c10] at H
        exact absurd H (by simp)
      ·rw [if_neg c9] at H
       exact absurd H (by simp)
     ·rw [if_neg c8] at H
      have c8b0 : ((bt a0 x7_1) == a1) = false := beq_eq_false_iff_ne.mpr c8
      have c8b1 : ((bt a0 x7_1) != a1) = true := bne_iff_ne.mpr c8
      have H' := Aside0.mk H
      clear H
      have p7 : 0 ≤ (x7_1 : Int) := of_decide_eq_true (by first | (with_reducible assumption) | assumption)
      have q7 : x7_1 < (a0.size : Int) := of_decide_eq_true (by first | (with_reducible assumption) | assumption)
      have hx7 := bt_at a0 x7_1
      replace p7 := eq_true p7
      replace q7 := eq_true q7
      go_wp2
      go_roundg k1
      case measure => have := HK1.out; omega
      case rel => exact ⟨(x5_1),(x6_1),(wrap64 (x7_1 + 1)),(by first | rfl | (simp; done) | (simp [*]; done)),(by first | rfl | (simp; done) | (simp [*]; done)),H',⟨by have := HK1.out; omega⟩,⟨rA HO_5.out⟩,⟨bA⟩⟩
    ·rw [if_neg c6] at H
     exact absurd H (by simp)
   ·rw [if_neg c5] at H
    have c5b0 : decide (x7_1 < (a0.size : Int)) = false := decide_eq_false c5
    clear c5
    by_cases c14 : 0 ≤ x6_1
    ·rw [if_pos c14] at H
     have c14b0 := eq_true c14
     have c14b1 : decide (0 ≤ x6_1) = true := decide_eq_true c14
     clear c14
     by_cases c15 : x6_1 ≤ (a0.size : Int)
     ·rw [if_pos c15] at H
      have c15b0 := eq_true c15
      have c15b1 : decide (x6_1 ≤ (a0.size : Int)) = true := decide_eq_true c15
      clear c15
      by_cases c16 : x5_1.length < 8796093022208
      ·rw [if_pos c16] at H
       have LMc16 := Aside0.mk c16
       clear c16
       obtain ⟨y169,hy169⟩ : ∃ y_ : List ByteArray,y_ = (x5_1 ++ [a0.extract (x6_1 : Int).toNat a0.size]) := ⟨_,rfl⟩
       replace H : (some y169) = some r := by first | (rw [hy169]; with_reducible exact H) | (have H2_ := (Option.bind_some _ _).symm.trans H; rw [hy169]; with_reducible exact H2_) | (have H2_ := (Option.bind_some _ _).symm.trans H; with_reducible exact H2_) | with_reducible exact H | (rw [hy169]; exact H) | exact H
       have Ny169 := Aside0.mk hy169
       clear hy169
       obtain rfl := Option.some.inj H
       go_wp2_with (first | ((with_reducible refine gate_builtin (b:=.append) (xs := #[.tmp 29,.tmp 33]) rfl ?_); at_builtin; refine Kd.R_append Kd.string (w0 := w) w.heap.size rfl (.tmp 29) (.tmp 33) 47 9 (.string ⟨#[]⟩) 16 rfl Tryd.underlying47 info9 rfl (by decide) (by omega) u5 x5_1 (a0.extract (x6_1 : Int).toNat a0.size) [.string (a0.extract (x6_1 : Int).toNat a0.size)] (fun _ => True) (fun _ => False) rfl rfl ?aP (fun _ hk => hk.elim) ?aF ?aO ?aB ?aS ?aL ?_; (case aP => exact rfl); (case aB => exact bA); (case aF => exact (fun _ _ => trivial)); (case aO => exact (rA HO_5.out)); (case aS => exact (below_size bA)); (case aL => have := LMc16.out; omega); intro v170 w17 ho hb hg hat; rw [← Ny169.out] at ho; have n0_ := Aside0.mk (hb); have n1_ := Aside0.mk (ho); clear HB; clear HO_5; have HB := n0_; have HO171 := n1_; clear n0_ n1_; clear ho hb hg hat))
       go_ret
       exact ⟨_,by first | rfl | (simp only [i64_w,i32_w] <;> rfl) | (simp [errW_none,errW_some] <;> rfl) | (simp [*,errW_none,errW_some] <;> rfl),rA HO171.out,bA⟩
      ·rw [if_neg c16] at H
       exact absurd H (by simp)
     ·rw [if_neg c15] at H
      exact absurd H (by simp)
    ·rw [if_neg c14] at H
     exact absurd H (by simp)

/-! ### spec_l01Bit: function 45 -/
def spec_l01Bit.f (a0 : Bool) : Option (Int) := if a0 = true then (some 1) else (some 0)
set_option maxHeartbeats 8000000 in
set_option maxRecDepth 100000 in
theorem spec_l01Bit.calls (a0 : Bool) (r : Int) (w : World) (h : spec_l01Bit.f a0 = some r) :
  Calls Tryd.prog 45 #[.bool a0] w fun e w' => e = .returned (.int .i64 r) ∧ Drawn0 w w' := by
 have H : (if a0 = true then (some 1) else (some 0)) = some r := h
 clear h
 by_cases c2 : a0 = true
 ·subst c2
  rw [if_pos rfl] at H
  obtain rfl := Option.some.inj H
  go_enter Tryd.func45,Tryd.ntmps45
  go_wp2
  go_ret
  exact ⟨by first | rfl | (simp; done) | (simp [*]; done),by repeat (first | exact Drawn0.refl _ | apply Drawn0.step)⟩
 ·replace c2 := Bool.eq_false_iff.mpr c2
  subst c2
  rw [if_neg (show ¬ (false = true) by decide)] at H
  obtain rfl := Option.some.inj H
  go_enter Tryd.func45,Tryd.ntmps45
  go_wp2
  go_ret
  exact ⟨by first | rfl | (simp; done) | (simp [*]; done),by repeat (first | exact Drawn0.refl _ | apply Drawn0.step)⟩

/-! ### spec_l00Digit: function 63 -/
def spec_l00Digit.f (a0 : Int) : Option (Bool) := if a0 ≥ 48 then (some (decide (a0 ≤ 57))) else (some false)
set_option maxHeartbeats 8000000 in
set_option maxRecDepth 100000 in
theorem spec_l00Digit.calls (a0 : Int) (r : Bool) (w : World) (h : spec_l00Digit.f a0 = some r) :
  Calls Tryd.prog 63 #[.int .u8 a0] w fun e w' => e = .returned (.bool r) ∧ Drawn0 w w' := by
 have H : (if a0 ≥ 48 then (some (decide (a0 ≤ 57))) else (some false)) = some r := h
 clear h
 by_cases c2 : a0 ≥ 48
 ·rw [if_pos c2] at H
  have c2b0 : decide (48 ≤ a0) = true := decide_eq_true c2
  clear c2
  obtain rfl := Option.some.inj H
  go_enter Tryd.func63,Tryd.ntmps63
  go_wp2
  go_ret
  exact ⟨by first | rfl | (simp; done) | (simp [*]; done),by repeat (first | exact Drawn0.refl _ | apply Drawn0.step)⟩
 ·rw [if_neg c2] at H
  have c2b0 : decide (48 ≤ a0) = false := decide_eq_false c2
  clear c2
  obtain rfl := Option.some.inj H
  go_enter Tryd.func63,Tryd.ntmps63
  go_wp2
  go_ret
  exact ⟨by first | rfl | (simp; done) | (simp [*]; done),by repeat (first | exact Drawn0.refl _ | apply Drawn0.step)⟩

/-! ### spec_l03Fixed: function 46 -/
def spec_l03Fixed.l0 : Nat → ByteArray → Int → Int → Option (Int × Bool)
 | 0,_,_,_ => none
 | k + 1,x0,x4,x5 => if x5 < (x0.size : Int) then (if 0 ≤ x5 then ((spec_l00Digit.f (bt x0 x5)).bind fun t172 => (if t172 = true then (spec_l03Fixed.l0 k x0 (wrap64 ((wrap64 (10 * x4)) + (((bt x0 x5) - 48) % 256))) (wrap64 (x5 + 1))) else (some (0,false)))) else (none)) else (some (x4,true))
def spec_l03Fixed.f (k : Nat) (a0 : ByteArray) : Option (Int × Bool) := spec_l03Fixed.l0 k a0 0 0
theorem spec_l03Fixed.mono_l : ∀ k,(∀ y0 y1 y2,LeO (spec_l03Fixed.l0 k y0 y1 y2) (spec_l03Fixed.l0 (k + 1) y0 y1 y2))
 | 0 => fun _ _ _ r h => by simp [spec_l03Fixed.l0] at h
 | k + 1 => by
  have ih0 := spec_l03Fixed.mono_l k
  ·intro y0 y1 y2
   unfold spec_l03Fixed.l0
   repeat' first
   | (with_reducible exact ih0 _ _ _)
   | (with_reducible exact LeO.refl _)
   | (with_reducible exact LeO.none _)
   | (with_reducible refine LeO.ite ?_ ?_)
   | (with_reducible refine LeO.bind ?_ (fun _ => ?_))
   | exact ih0 _ _ _
   | exact LeO.none _
   | refine LeO.ite ?_ ?_
   | refine LeO.bind ?_ (fun _ => ?_)
theorem spec_l03Fixed.mono : ∀ a0 k,LeO (spec_l03Fixed.f k a0) (spec_l03Fixed.f (k + 1) a0) := by
 intro a0 k
 have ih0 := spec_l03Fixed.mono_l k
 unfold spec_l03Fixed.f
 repeat' first
   | (with_reducible exact ih0 _ _ _)
   | (with_reducible exact LeO.refl _)
   | (with_reducible exact LeO.none _)
   | (with_reducible refine LeO.ite ?_ ?_)
   | (with_reducible refine LeO.bind ?_ (fun _ => ?_))
   | exact ih0 _ _ _
   | exact LeO.none _
   | refine LeO.ite ?_ ?_
   | refine LeO.bind ?_ (fun _ => ?_)
set_option maxHeartbeats 8000000 in
set_option maxRecDepth 100000 in
theorem spec_l03Fixed.calls (k : Nat) (a0 : ByteArray) (r1 : Int) (r2 : Bool) (w : World) (h : spec_l03Fixed.f k a0 = some (r1,r2)) :
  Calls Tryd.prog 46 #[.string a0] w fun e w' => e = .returned (.tuple #[.int .i64 r1,.bool r2]) ∧ Drawn0 w w' := by
 have H : (spec_l03Fixed.l0 k a0 0 0) = some (r1,r2) := h
 clear h
 have H' := Aside0.mk H
 clear H
 go_enter Tryd.func46,Tryd.ntmps46
 go_wp2
 go_loopg [4,5] k (fun kq v4 v5 w' => ∃ (x4_1 : Int) (x5_1 : Int),v4 = .int .i64 x4_1 ∧ v5 = .int .i64 x5_1 ∧ Aside0 (spec_l03Fixed.l0 kq a0 x4_1 x5_1 = some (r1,r2)) ∧ Aside0 (kq ≤ k) ∧ Drawn0 w w')
 case atStart => exact ⟨(0),(0),(by first | rfl | (simp; done) | (simp [*]; done)),(by first | rfl | (simp; done) | (simp [*]; done)),H',⟨Nat.le_refl _⟩,by repeat (first | exact Drawn0.refl _ | apply Drawn0.step)⟩
 case round =>
  clear H'
  obtain ⟨x4_1,x5_1,rfl,rfl,HA,HK1,⟨m1,rfl⟩⟩ := hrel
  cases gk with
  | zero => exact absurd HA.out (by simp [spec_l03Fixed.l0])
  | succ k1 =>
   have H := HA.out
   clear HA
   simp only [spec_l03Fixed.l0] at H
   by_cases c2 : x5_1 < (a0.size : Int)
   ·rw [if_pos c2] at H
    have c2b0 : decide (x5_1 < (a0.size : Int)) = true := decide_eq_true c2
    clear c2
    by_cases c3 : 0 ≤ x5_1
    ·rw [if_pos c3] at H
     have c3b0 : decide (0 ≤ x5_1) = true := decide_eq_true c3
     clear c3
     replace H := Option.bind_eq_some_iff.mp H
     obtain ⟨t172,A50,H⟩ := H
     try dsimp only at H
     have A5 := Aside0.mk A50
     clear A50
     by_cases c6 : t172 = true
     ·subst c6
      rw [if_pos rfl] at H
      have H' := Aside0.mk H
      clear H
      have p4 : 0 ≤ (x5_1 : Int) := of_decide_eq_true (by first | (with_reducible assumption) | assumption)
      have q4 : x5_1 < (a0.size : Int) := of_decide_eq_true (by first | (with_reducible assumption) | assumption)
      have hx4 := bt_at a0 x5_1
      replace p4 := eq_true p4
      replace q4 := eq_true q4
      go_wp2_with (first | ((with_reducible refine gate_callee (f:=63) rfl ?_); refine goesL_ (some 15) rfl rfl Tryd.func63 (by kernel_rfl) rfl #[.int .u8 (bt a0 x5_1)] rfl mA ?_; (with_reducible refine (spec_l00Digit.calls (bt a0 x5_1) true _ A5.out).mono ?_); rintro e w' ⟨rfl,⟨nd,rfl⟩⟩; refine ⟨_,rfl,?_⟩; have p7 : 0 ≤ (x5_1 : Int) := of_decide_eq_true (by first | (with_reducible assumption) | assumption); have q7 : x5_1 < (a0.size : Int) := of_decide_eq_true (by first | (with_reducible assumption) | assumption); have hx7 := bt_at a0 x5_1; replace p7 := eq_true p7; replace q7 := eq_true q7))
      go_roundg k1
      case measure => have := HK1.out; omega
      case rel => exact ⟨(wrap64 ((wrap64 (10 * x4_1)) + (((bt a0 x5_1) - 48) % 256))),(wrap64 (x5_1 + 1)),(by first | rfl | (simp; done) | (simp [*]; done)),(by first | rfl | (simp; done) | (simp [*]; done)),H',⟨by have := HK1.out; omega⟩,by repeat (first | exact Drawn0.refl _ | apply Drawn0.step)⟩
     ·replace c6 := Bool.eq_false_iff.mpr c6
      subst c6
      rw [if_neg (show ¬ (false = true) by decide)] at H
      simp only [Option.some.injEq,Prod.mk.injEq] at H
      obtain ⟨rfl,rfl⟩ := H
      have p4 : 0 ≤ (x5_1 : Int) := of_decide_eq_true (by first | (with_reducible assumption) | assumption)
      have q4 : x5_1 < (a0.size : Int) := of_decide_eq_true (by first | (with_reducible assumption) | assumption)
      have hx4 := bt_at a0 x5_1
      replace p4 := eq_true p4
      replace q4 := eq_true q4
      go_wp2_with (first | ((with_reducible refine gate_callee (f:=63) rfl ?_); refine goesL_ (some 15) rfl rfl Tryd.func63 (by kernel_rfl) rfl #[.int .u8 (bt a0 x5_1)] rfl mA ?_; (with_reducible refine (spec_l00Digit.calls (bt a0 x5_1) false _ A5.out).mono ?_); rintro e w' ⟨rfl,⟨nd,rfl⟩⟩; refine ⟨_,rfl,?_⟩))
      go_ret2
      exact ⟨by first | rfl | (simp; done) | (simp [*]; done),by repeat (first | exact Drawn0.refl _ | apply Drawn0.step)⟩
    ·rw [if_neg c3] at H
     exact absurd H (by simp)
   ·rw [if_neg c2] at H
    have c2b0 : decide (x5_1 < (a0.size : Int)) = false := decide_eq_false c2
    clear c2
    simp only [Option.some.injEq,Prod.mk.injEq] at H
    obtain ⟨rfl,rfl⟩ := H
    go_wp2
    go_ret2
    exact ⟨by first | rfl | (simp; done) | (simp [*]; done),by repeat (first | exact Drawn0.refl _ | apply Drawn0.step)⟩

/-! ### spec_l03KeyOK: function 47 -/
def spec_l03KeyOK.f (a0 : Int) (a1 : Int) (a2 : Int) : Option (Bool) := (spec_l01In.f a0 0 2).bind fun t173 => (if t173 = true then ((spec_l01In.f a1 0 999999).bind fun t174 => (if t174 = true then ((spec_l01In.f a2 0 999999).bind fun t175 => (some t175)) else (some false))) else (some false))
set_option maxHeartbeats 8000000 in
set_option maxRecDepth 100000 in
theorem spec_l03KeyOK.calls (a0 : Int) (a1 : Int) (a2 : Int) (r : Bool) (w : World) (h : spec_l03KeyOK.f a0 a1 a2 = some r) :
  Calls Tryd.prog 47 #[.int .i64 a0,.int .i64 a1,.int .i64 a2] w fun e w' => e = .returned (.bool r) ∧ Drawn0 w w' := by
 have H : ((spec_l01In.f a0 0 2).bind fun t173 => (if t173 = true then ((spec_l01In.f a1 0 999999).bind fun t174 => (if t174 = true then ((spec_l01In.f a2 0 999999).bind fun t175 => (some t175)) else (some false))) else (some false))) = some r := h
 clear h
 replace H := Option.bind_eq_some_iff.mp H
 obtain ⟨t173,A40,H⟩ := H
 try dsimp only at H
 have A4 := Aside0.mk A40
 clear A40
 by_cases c5 : t173 = true
 ·subst c5
  rw [if_pos rfl] at H
  replace H := Option.bind_eq_some_iff.mp H
  obtain ⟨t174,A60,H⟩ := H
  try dsimp only at H
  have A6 := Aside0.mk A60
  clear A60
  by_cases c7 : t174 = true
  ·subst c7
   rw [if_pos rfl] at H
   replace H := Option.bind_eq_some_iff.mp H
   obtain ⟨t175,A80,H⟩ := H
   try dsimp only at H
   have A8 := Aside0.mk A80
   clear A80
   obtain rfl := Option.some.inj H
   go_enter Tryd.func47,Tryd.ntmps47
   go_wp2_with (first | ((with_reducible refine gate_callee (f:=18) rfl ?_); refine goesL_ (some 8) rfl rfl Tryd.func18 (by kernel_rfl) rfl #[.int .i64 a0,.int .i64 0,.int .i64 2] rfl mA ?_; (with_reducible refine (spec_l01In.calls a0 0 2 true _ A4.out).mono ?_); rintro e w' ⟨rfl,⟨nd,rfl⟩⟩; refine ⟨_,rfl,?_⟩) | (go_at_call 18; (with_reducible refine (spec_l01In.calls a1 0 999999 true _ A6.out).mono ?_); rintro e w' ⟨rfl,⟨nd,rfl⟩⟩) | (go_at_call 18; (with_reducible refine (spec_l01In.calls a2 0 999999 t175 _ A8.out).mono ?_); rintro e w' ⟨rfl,⟨nd,rfl⟩⟩))
   go_ret
   exact ⟨by first | rfl | (simp; done) | (simp [*]; done),by repeat (first | exact Drawn0.refl _ | apply Drawn0.step)⟩
  ·replace c7 := Bool.eq_false_iff.mpr c7
   subst c7
   rw [if_neg (show ¬ (false = true) by decide)] at H
   obtain rfl := Option.some.inj H
   go_enter Tryd.func47,Tryd.ntmps47
   go_wp2_with (first | ((with_reducible refine gate_callee (f:=18) rfl ?_); refine goesL_ (some 8) rfl rfl Tryd.func18 (by kernel_rfl) rfl #[.int .i64 a0,.int .i64 0,.int .i64 2] rfl mA ?_; (with_reducible refine (spec_l01In.calls a0 0 2 true _ A4.out).mono ?_); rintro e w' ⟨rfl,⟨nd,rfl⟩⟩; refine ⟨_,rfl,?_⟩) | (go_at_call 18; (with_reducible refine (spec_l01In.calls a1 0 999999 false _ A6.out).mono ?_); rintro e w' ⟨rfl,⟨nd,rfl⟩⟩))
   go_ret
   exact ⟨by first | rfl | (simp; done) | (simp [*]; done),by repeat (first | exact Drawn0.refl _ | apply Drawn0.step)⟩
 ·replace c5 := Bool.eq_false_iff.mpr c5
  subst c5
  rw [if_neg (show ¬ (false = true) by decide)] at H
  obtain rfl := Option.some.inj H
  go_enter Tryd.func47,Tryd.ntmps47
  go_wp2_with (first | ((with_reducible refine gate_callee (f:=18) rfl ?_); refine goesL_ (some 8) rfl rfl Tryd.func18 (by kernel_rfl) rfl #[.int .i64 a0,.int .i64 0,.int .i64 2] rfl mA ?_; (with_reducible refine (spec_l01In.calls a0 0 2 false _ A4.out).mono ?_); rintro e w' ⟨rfl,⟨nd,rfl⟩⟩; refine ⟨_,rfl,?_⟩))
  go_ret
  exact ⟨by first | rfl | (simp; done) | (simp [*]; done),by repeat (first | exact Drawn0.refl _ | apply Drawn0.step)⟩

end Go.Proofs.YtfondhlknkhmmaaDoor.XFnExactDueWindow
