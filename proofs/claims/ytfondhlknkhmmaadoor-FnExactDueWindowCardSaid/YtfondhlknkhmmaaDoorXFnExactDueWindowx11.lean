-- Printed by this session's own program wip/tools/xprint.py, which widens the kit's print. Not trusted: Lean checks it.
import Derived.Test.YtfondhlknkhmmaaDoorXFnExactDueWindowx0
import Derived.Test.YtfondhlknkhmmaaDoorXFnExactDueWindowx1
import Derived.Test.YtfondhlknkhmmaaDoorXFnExactDueWindowx3
import Derived.Test.YtfondhlknkhmmaaDoorXFnExactDueWindowx7
import Derived.Test.YtfondhlknkhmmaaDoorXFnExactDueWindowx10
namespace Go.Proofs.YtfondhlknkhmmaaDoor.XFnExactDueWindow
open List (setIfInBounds_toArray set_cons_zero set_cons_succ)
open Go.RowKit Go.Proofs.YtfondhlknkhmmaaDoorW.PrintWords Go.Proofs.YtfondhlknkhmmaaDoorW.PrintLast Go.Proofs.YtfondhlknkhmmaaDoorW.PrintMore
attribute [local go_sem] max2_int min2_int max_two min_two max_three min_three max_four min_four   -- for this text's walks alone
set_option linter.unusedVariables false
set_option linter.unusedSimpArgs false

/-! ### laws_FnExactDueWindow: function 4 -/
def laws_FnExactDueWindow.j0 : Nat → Bool → Int → Int → List (S75) → List (S77) → Int → Int → Int → Int → Int → Int → Int → Int → List (S39) → List (S55) → Int → Int → Int → Int → Int → Int → Option (Bool)
 | 0,_,_,_,_,_,_,_,_,_,_,_,_,_,_,_,_,_,_,_,_,_ => none
 | k + 1,x52,x325000,x325001,x325002,x325003,x325004,x325005,x325006,x325007,x325008,x325009,x359000,x359001,x359002,x359003,x359004,x359005,x359006,x359007,x359008,x359009 => if x52 = true then (none) else ((laws_toState.f k x325000 x325001 x325002 x325003 x325004 x325005 x325006 x325007 x325008 x325009).bind fun bt363 => ((laws_eqState.f k x359000 x359001 x359002 x359003 x359004 x359005 x359006 x359007 x359008 x359009 bt363.1 bt363.2.1 bt363.2.2.1 bt363.2.2.2.1 bt363.2.2.2.2.1 bt363.2.2.2.2.2.1 bt363.2.2.2.2.2.2.1 bt363.2.2.2.2.2.2.2.1 bt363.2.2.2.2.2.2.2.2.1 bt363.2.2.2.2.2.2.2.2.2).bind fun t377 => (if t377 = true then (some true) else (none))))
def laws_FnExactDueWindow.f (k : Nat) (a0_0 : Int) (a0_1 : Int) (l0_2 : List (S75)) (l0_3 : List (S77)) (a0_4 : Int) (a0_5 : Int) (a0_6 : Int) (a0_7 : Int) (a0_8 : Int) (a0_9 : Int) : Option (Bool) := (laws_szState.f k a0_0 a0_1 l0_2 l0_3 a0_4 a0_5 a0_6 a0_7 a0_8 a0_9 1048576).bind fun t325 => (if t325 < 0 then (some true) else ((laws_toState.f k a0_0 a0_1 l0_2 l0_3 a0_4 a0_5 a0_6 a0_7 a0_8 a0_9).bind fun bt326 => ((spec_DueWindow.f k bt326.1 bt326.2.1 bt326.2.2.1 bt326.2.2.2.1 bt326.2.2.2.2.1 bt326.2.2.2.2.2.1 bt326.2.2.2.2.2.2.1 bt326.2.2.2.2.2.2.2.1 bt326.2.2.2.2.2.2.2.2.1 bt326.2.2.2.2.2.2.2.2.2).bind fun bt340 => ((laws_toState.f k a0_0 a0_1 l0_2 l0_3 a0_4 a0_5 a0_6 a0_7 a0_8 a0_9).bind fun bt344 => ((impl_DueWindow.f k bt344.1 bt344.2.1 bt344.2.2.1 bt344.2.2.2.1 bt344.2.2.2.2.1 bt344.2.2.2.2.2.1 bt344.2.2.2.2.2.2.1 bt344.2.2.2.2.2.2.2.1 bt344.2.2.2.2.2.2.2.2.1 bt344.2.2.2.2.2.2.2.2.2).bind fun bt359 => (if bt359.1 = bt340.1 then (if bt359.2.1 = bt340.2.1 then (if (bt359.2.2.1 != bt340.2.2.1) = true then (laws_FnExactDueWindow.j0 k true a0_0 a0_1 l0_2 l0_3 a0_4 a0_5 a0_6 a0_7 a0_8 a0_9 bt344.1 bt344.2.1 bt344.2.2.1 bt344.2.2.2.1 bt344.2.2.2.2.1 bt344.2.2.2.2.2.1 bt344.2.2.2.2.2.2.1 bt344.2.2.2.2.2.2.2.1 bt344.2.2.2.2.2.2.2.2.1 bt344.2.2.2.2.2.2.2.2.2) else (laws_FnExactDueWindow.j0 k (bt359.2.2.2 != bt340.2.2.2) a0_0 a0_1 l0_2 l0_3 a0_4 a0_5 a0_6 a0_7 a0_8 a0_9 bt344.1 bt344.2.1 bt344.2.2.1 bt344.2.2.2.1 bt344.2.2.2.2.1 bt344.2.2.2.2.2.1 bt344.2.2.2.2.2.2.1 bt344.2.2.2.2.2.2.2.1 bt344.2.2.2.2.2.2.2.2.1 bt344.2.2.2.2.2.2.2.2.2)) else (laws_FnExactDueWindow.j0 k true a0_0 a0_1 l0_2 l0_3 a0_4 a0_5 a0_6 a0_7 a0_8 a0_9 bt344.1 bt344.2.1 bt344.2.2.1 bt344.2.2.2.1 bt344.2.2.2.2.1 bt344.2.2.2.2.2.1 bt344.2.2.2.2.2.2.1 bt344.2.2.2.2.2.2.2.1 bt344.2.2.2.2.2.2.2.2.1 bt344.2.2.2.2.2.2.2.2.2)) else (laws_FnExactDueWindow.j0 k true a0_0 a0_1 l0_2 l0_3 a0_4 a0_5 a0_6 a0_7 a0_8 a0_9 bt344.1 bt344.2.1 bt344.2.2.1 bt344.2.2.2.1 bt344.2.2.2.2.1 bt344.2.2.2.2.2.1 bt344.2.2.2.2.2.2.1 bt344.2.2.2.2.2.2.2.1 bt344.2.2.2.2.2.2.2.2.1 bt344.2.2.2.2.2.2.2.2.2)))))))
theorem laws_FnExactDueWindow.mono_l : ∀ k,(∀ y0 y1 y2 y3 y4 y5 y6 y7 y8 y9 y10 y11 y12 y13 y14 y15 y16 y17 y18 y19 y20,LeO (laws_FnExactDueWindow.j0 k y0 y1 y2 y3 y4 y5 y6 y7 y8 y9 y10 y11 y12 y13 y14 y15 y16 y17 y18 y19 y20) (laws_FnExactDueWindow.j0 (k + 1) y0 y1 y2 y3 y4 y5 y6 y7 y8 y9 y10 y11 y12 y13 y14 y15 y16 y17 y18 y19 y20))
 | 0 => fun _ _ _ _ _ _ _ _ _ _ _ _ _ _ _ _ _ _ _ _ _ r h => by simp [laws_FnExactDueWindow.j0] at h
 | k + 1 => by
  have ih0 := laws_FnExactDueWindow.mono_l k
  ·intro y0 y1 y2 y3 y4 y5 y6 y7 y8 y9 y10 y11 y12 y13 y14 y15 y16 y17 y18 y19 y20
   unfold laws_FnExactDueWindow.j0
   repeat' first
   | (with_reducible exact ih0 _ _ _ _ _ _ _ _ _ _ _ _ _ _ _ _ _ _ _ _ _)
   | (with_reducible exact impl_DueWindow.mono _ _ _ _ _ _ _ _ _ _ _)
   | (with_reducible exact laws_eqState.mono _ _ _ _ _ _ _ _ _ _ _ _ _ _ _ _ _ _ _ _ _)
   | (with_reducible exact laws_szState.mono _ _ _ _ _ _ _ _ _ _ _ _)
   | (with_reducible exact laws_toState.mono _ _ _ _ _ _ _ _ _ _ _)
   | (with_reducible exact spec_DueWindow.mono _ _ _ _ _ _ _ _ _ _ _)
   | (with_reducible exact LeO.refl _)
   | (with_reducible exact LeO.none _)
   | (with_reducible refine LeO.ite ?_ ?_)
   | (with_reducible refine LeO.bind ?_ (fun _ => ?_))
   | exact ih0 _ _ _ _ _ _ _ _ _ _ _ _ _ _ _ _ _ _ _ _ _
   | exact impl_DueWindow.mono _ _ _ _ _ _ _ _ _ _ _
   | exact laws_eqState.mono _ _ _ _ _ _ _ _ _ _ _ _ _ _ _ _ _ _ _ _ _
   | exact laws_szState.mono _ _ _ _ _ _ _ _ _ _ _ _
   | exact laws_toState.mono _ _ _ _ _ _ _ _ _ _ _
   | exact spec_DueWindow.mono _ _ _ _ _ _ _ _ _ _ _
   | exact LeO.none _
   | refine LeO.ite ?_ ?_
   | refine LeO.bind ?_ (fun _ => ?_)
theorem laws_FnExactDueWindow.mono : ∀ a0 a1 a2 a3 a4 a5 a6 a7 a8 a9 k,LeO (laws_FnExactDueWindow.f k a0 a1 a2 a3 a4 a5 a6 a7 a8 a9) (laws_FnExactDueWindow.f (k + 1) a0 a1 a2 a3 a4 a5 a6 a7 a8 a9) := by
 intro a0 a1 a2 a3 a4 a5 a6 a7 a8 a9 k
 have ih0 := laws_FnExactDueWindow.mono_l k
 unfold laws_FnExactDueWindow.f
 repeat' first
   | (with_reducible exact ih0 _ _ _ _ _ _ _ _ _ _ _ _ _ _ _ _ _ _ _ _ _)
   | (with_reducible exact impl_DueWindow.mono _ _ _ _ _ _ _ _ _ _ _)
   | (with_reducible exact laws_eqState.mono _ _ _ _ _ _ _ _ _ _ _ _ _ _ _ _ _ _ _ _ _)
   | (with_reducible exact laws_szState.mono _ _ _ _ _ _ _ _ _ _ _ _)
   | (with_reducible exact laws_toState.mono _ _ _ _ _ _ _ _ _ _ _)
   | (with_reducible exact spec_DueWindow.mono _ _ _ _ _ _ _ _ _ _ _)
   | (with_reducible exact LeO.refl _)
   | (with_reducible exact LeO.none _)
   | (with_reducible refine LeO.ite ?_ ?_)
   | (with_reducible refine LeO.bind ?_ (fun _ => ?_))
   | exact ih0 _ _ _ _ _ _ _ _ _ _ _ _ _ _ _ _ _ _ _ _ _
   | exact impl_DueWindow.mono _ _ _ _ _ _ _ _ _ _ _
   | exact laws_eqState.mono _ _ _ _ _ _ _ _ _ _ _ _ _ _ _ _ _ _ _ _ _
   | exact laws_szState.mono _ _ _ _ _ _ _ _ _ _ _ _
   | exact laws_toState.mono _ _ _ _ _ _ _ _ _ _ _
   | exact spec_DueWindow.mono _ _ _ _ _ _ _ _ _ _ _
   | exact LeO.none _
   | refine LeO.ite ?_ ?_
   | refine LeO.bind ?_ (fun _ => ?_)
set_option maxHeartbeats 8000000 in
set_option maxRecDepth 100000 in
theorem laws_FnExactDueWindow.calls (k : Nat) (a0_0 : Int) (a0_1 : Int) (A0_2 : Option Addr) (c0_2 : Nat) (l0_2 : List (S75)) (A0_3 : Option Addr) (c0_3 : Nat) (l0_3 : List (S77)) (a0_4 : Int) (a0_5 : Int) (a0_6 : Int) (a0_7 : Int) (a0_8 : Int) (a0_9 : Int) (r : Bool) (w : World) (hV : Vars w) (hr0_2 : Kd.C k75 w A0_2 l0_2.length l0_2) (hc0_2 : l0_2.length ≤ c0_2) (hr0_3 : Kd.C k77 w A0_3 l0_3.length l0_3) (hc0_3 : l0_3.length ≤ c0_3) (h : laws_FnExactDueWindow.f k a0_0 a0_1 l0_2 l0_3 a0_4 a0_5 a0_6 a0_7 a0_8 a0_9 = some r) :
  Calls Tryd.prog 4 #[.agg #[.int .i64 a0_0,.int .i64 a0_1,.slice A0_2 l0_2.length c0_2,.slice A0_3 l0_3.length c0_3,.int .i64 a0_4,.int .i64 a0_5,.int .i64 a0_6,.int .i64 a0_7,.int .i64 a0_8,.int .i64 a0_9]] w fun e w' => e = .returned (.bool r) ∧ Below w.heap.size w w' := by
 have hu26 := Tryd.underlying26
 have hu32 := Tryd.underlying32
 have HR0_2 := Aside0.mk hr0_2
 have HC0_2 := Aside0.mk hc0_2
 clear hr0_2 hc0_2
 have HR0_3 := Aside0.mk hr0_3
 have HC0_3 := Aside0.mk hc0_3
 clear hr0_3 hc0_3
 have HV := Aside0.mk hV
 clear hV
 have HB := Aside0.mk (Below.refl w.heap.size w)
 have H : ((laws_szState.f k a0_0 a0_1 l0_2 l0_3 a0_4 a0_5 a0_6 a0_7 a0_8 a0_9 1048576).bind fun t325 => (if t325 < 0 then (some true) else ((laws_toState.f k a0_0 a0_1 l0_2 l0_3 a0_4 a0_5 a0_6 a0_7 a0_8 a0_9).bind fun bt326 => ((spec_DueWindow.f k bt326.1 bt326.2.1 bt326.2.2.1 bt326.2.2.2.1 bt326.2.2.2.2.1 bt326.2.2.2.2.2.1 bt326.2.2.2.2.2.2.1 bt326.2.2.2.2.2.2.2.1 bt326.2.2.2.2.2.2.2.2.1 bt326.2.2.2.2.2.2.2.2.2).bind fun bt340 => ((laws_toState.f k a0_0 a0_1 l0_2 l0_3 a0_4 a0_5 a0_6 a0_7 a0_8 a0_9).bind fun bt344 => ((impl_DueWindow.f k bt344.1 bt344.2.1 bt344.2.2.1 bt344.2.2.2.1 bt344.2.2.2.2.1 bt344.2.2.2.2.2.1 bt344.2.2.2.2.2.2.1 bt344.2.2.2.2.2.2.2.1 bt344.2.2.2.2.2.2.2.2.1 bt344.2.2.2.2.2.2.2.2.2).bind fun bt359 => (if bt359.1 = bt340.1 then (if bt359.2.1 = bt340.2.1 then (if (bt359.2.2.1 != bt340.2.2.1) = true then (laws_FnExactDueWindow.j0 k true a0_0 a0_1 l0_2 l0_3 a0_4 a0_5 a0_6 a0_7 a0_8 a0_9 bt344.1 bt344.2.1 bt344.2.2.1 bt344.2.2.2.1 bt344.2.2.2.2.1 bt344.2.2.2.2.2.1 bt344.2.2.2.2.2.2.1 bt344.2.2.2.2.2.2.2.1 bt344.2.2.2.2.2.2.2.2.1 bt344.2.2.2.2.2.2.2.2.2) else (laws_FnExactDueWindow.j0 k (bt359.2.2.2 != bt340.2.2.2) a0_0 a0_1 l0_2 l0_3 a0_4 a0_5 a0_6 a0_7 a0_8 a0_9 bt344.1 bt344.2.1 bt344.2.2.1 bt344.2.2.2.1 bt344.2.2.2.2.1 bt344.2.2.2.2.2.1 bt344.2.2.2.2.2.2.1 bt344.2.2.2.2.2.2.2.1 bt344.2.2.2.2.2.2.2.2.1 bt344.2.2.2.2.2.2.2.2.2)) else (laws_FnExactDueWindow.j0 k true a0_0 a0_1 l0_2 l0_3 a0_4 a0_5 a0_6 a0_7 a0_8 a0_9 bt344.1 bt344.2.1 bt344.2.2.1 bt344.2.2.2.1 bt344.2.2.2.2.1 bt344.2.2.2.2.2.1 bt344.2.2.2.2.2.2.1 bt344.2.2.2.2.2.2.2.1 bt344.2.2.2.2.2.2.2.2.1 bt344.2.2.2.2.2.2.2.2.2)) else (laws_FnExactDueWindow.j0 k true a0_0 a0_1 l0_2 l0_3 a0_4 a0_5 a0_6 a0_7 a0_8 a0_9 bt344.1 bt344.2.1 bt344.2.2.1 bt344.2.2.2.1 bt344.2.2.2.2.1 bt344.2.2.2.2.2.1 bt344.2.2.2.2.2.2.1 bt344.2.2.2.2.2.2.2.1 bt344.2.2.2.2.2.2.2.2.1 bt344.2.2.2.2.2.2.2.2.2)))))))) = some r := h
 clear h
 replace H := Option.bind_eq_some_iff.mp H
 obtain ⟨t325,A20,H⟩ := H
 try dsimp only at H
 have A2 := Aside0.mk A20
 clear A20
 by_cases c3 : t325 < 0
 ·rw [if_pos c3] at H
  have c3b0 : decide (t325 < 0) = true := decide_eq_true c3
  clear c3
  obtain rfl := Option.some.inj H
  go_enter Tryd.func4,Tryd.ntmps4
  go_wp2_with (first | ((with_reducible refine gate_dst (N:=1) rfl ?_); refine box_event ?hg (N:=1) ?hd (cs := #[.int .i64 a0_0,.int .i64 a0_1,.slice A0_2 l0_2.length c0_2,.slice A0_3 l0_3.length c0_3,.int .i64 a0_4,.int .i64 a0_5,.int .i64 a0_6,.int .i64 a0_7,.int .i64 a0_8,.int .i64 a0_9]) (t:=26) ?hr ?_; (case hd => rfl); (case hg => rfl); (case hr => first | (go_simp; done) | (go_simp; rfl)); intro gb324 hg w4 hbox hb; have n0_ := Aside0.mk (below_step bA hb); have n1_ := Aside0.mk (hbox); have n2_ := Aside0.mk ((by rw [hg]; exact (below_size bA) : w.heap.size ≤ gb324)); have n3_ := Aside0.mk ((by rw [hg]; exact (below_size bA) : w.heap.size ≤ gb324)); clear HB; have HB := n0_; have BK324 := n1_; have GW324 := n2_; have GE324 := n3_; clear n0_ n1_ n2_ n3_; clear hb hbox hg; have hcz5_0 : w4.cell? ⟨gb324,0,none⟩ = some (.int .i64 a0_0) := (blk_cell BK324.out 0).trans rfl; have hcz5_1 : w4.cell? ⟨gb324,1,none⟩ = some (.int .i64 a0_1) := (blk_cell BK324.out 1).trans rfl; have hcz5_2 : w4.cell? ⟨gb324,2,none⟩ = some (.slice A0_2 l0_2.length c0_2) := (blk_cell BK324.out 2).trans rfl; have hcz5_3 : w4.cell? ⟨gb324,3,none⟩ = some (.slice A0_3 l0_3.length c0_3) := (blk_cell BK324.out 3).trans rfl; have hcz5_4 : w4.cell? ⟨gb324,4,none⟩ = some (.int .i64 a0_4) := (blk_cell BK324.out 4).trans rfl; have hcz5_5 : w4.cell? ⟨gb324,5,none⟩ = some (.int .i64 a0_5) := (blk_cell BK324.out 5).trans rfl; have hcz5_6 : w4.cell? ⟨gb324,6,none⟩ = some (.int .i64 a0_6) := (blk_cell BK324.out 6).trans rfl; have hcz5_7 : w4.cell? ⟨gb324,7,none⟩ = some (.int .i64 a0_7) := (blk_cell BK324.out 7).trans rfl; have hcz5_8 : w4.cell? ⟨gb324,8,none⟩ = some (.int .i64 a0_8) := (blk_cell BK324.out 8).trans rfl; have hcz5_9 : w4.cell? ⟨gb324,9,none⟩ = some (.int .i64 a0_9) := (blk_cell BK324.out 9).trans rfl; have hfz5_0 := blk_frozen BK324.out 0; have hfz5_1 := blk_frozen BK324.out 1; have hfz5_2 := blk_frozen BK324.out 2; have hfz5_3 := blk_frozen BK324.out 3; have hfz5_4 := blk_frozen BK324.out 4; have hfz5_5 := blk_frozen BK324.out 5; have hfz5_6 := blk_frozen BK324.out 6; have hfz5_7 := blk_frozen BK324.out 7; have hfz5_8 := blk_frozen BK324.out 8; have hfz5_9 := blk_frozen BK324.out 9) | ((with_reducible refine gate_callee (f:=6) rfl ?_); refine goesL_ (some 15) rfl rfl Tryd.func6 (by kernel_rfl) rfl #[.agg #[.int .i64 a0_0,.int .i64 a0_1,.slice A0_2 l0_2.length c0_2,.slice A0_3 l0_3.length c0_3,.int .i64 a0_4,.int .i64 a0_5,.int .i64 a0_6,.int .i64 a0_7,.int .i64 a0_8,.int .i64 a0_9],.int .i64 1048576] rfl mA ?_; (with_reducible refine (laws_szState.calls k a0_0 a0_1 _ _ l0_2 _ _ l0_3 a0_4 a0_5 a0_6 a0_7 a0_8 a0_9 1048576 t325 _ ?side1 ?side2 ?side3 ?side4 A2.out).mono ?_); (case side1 => repeat (first | exact (Kd.C_below HR0_2.out HB.out) | (with_reducible refine Kd.C_alloc ?_ _) | (with_reducible refine Kd.C_drewN ?_ _) | (with_reducible refine Kd.C_drew ?_))); (case side2 => exact HC0_2.out); (case side3 => repeat (first | exact (Kd.C_below HR0_3.out HB.out) | (with_reducible refine Kd.C_alloc ?_ _) | (with_reducible refine Kd.C_drewN ?_ _) | (with_reducible refine Kd.C_drew ?_))); (case side4 => exact HC0_3.out); rintro e w6 ⟨rfl,hb⟩; refine ⟨_,rfl,?_⟩; have n0_ := Aside0.mk (blk_below (g:=gb324) (o:=.cells #[.int .i64 a0_0,.int .i64 a0_1,.slice A0_2 l0_2.length c0_2,.slice A0_3 l0_3.length c0_3,.int .i64 a0_4,.int .i64 a0_5,.int .i64 a0_6,.int .i64 a0_7,.int .i64 a0_8,.int .i64 a0_9] 26 (0,0)) (kA BK324.out) hb); have n1_ := Aside0.mk (below_step bA hb); clear BK324; clear HB; have BK324 := n0_; have HB := n1_; clear n0_ n1_; (try clear hb); (try clear hb2); (try clear hk); (try clear hi)))
  go_ret
  exact ⟨by first | rfl | (simp [errW_none,errW_some] <;> rfl) | (simp [*,errW_none,errW_some] <;> rfl),bA⟩
 ·rw [if_neg c3] at H
  have c3b0 : decide (t325 < 0) = false := decide_eq_false c3
  clear c3
  replace H := Option.bind_eq_some_iff.mp H
  obtain ⟨⟨t326,t327,t328,t331,t334,t335,t336,t337,t338,t339⟩,A70,H⟩ := H
  try dsimp only at H
  have A7 := Aside0.mk A70
  clear A70
  replace H := Option.bind_eq_some_iff.mp H
  obtain ⟨⟨t340,t341,t342,t343⟩,A80,H⟩ := H
  try dsimp only at H
  have A8 := Aside0.mk A80
  clear A80
  replace H := Option.bind_eq_some_iff.mp H
  obtain ⟨⟨t344,t345,t346,t349,t352,t353,t354,t355,t356,t357⟩,A90,H⟩ := H
  try dsimp only at H
  have A9 := Aside0.mk A90
  clear A90
  replace H := Option.bind_eq_some_iff.mp H
  obtain ⟨⟨t359,t360,t361,t362⟩,A100,H⟩ := H
  try dsimp only at H
  have A10 := Aside0.mk A100
  clear A100
  have HC11 := Aside0.mk H
  clear H
  go_enter Tryd.func4,Tryd.ntmps4
  go_upto_region 8 with (first | ((with_reducible refine gate_dst (N:=1) rfl ?_); refine box_event ?hg (N:=1) ?hd (cs := #[.int .i64 a0_0,.int .i64 a0_1,.slice A0_2 l0_2.length c0_2,.slice A0_3 l0_3.length c0_3,.int .i64 a0_4,.int .i64 a0_5,.int .i64 a0_6,.int .i64 a0_7,.int .i64 a0_8,.int .i64 a0_9]) (t:=26) ?hr ?_; (case hd => rfl); (case hg => rfl); (case hr => first | (go_simp; done) | (go_simp; rfl)); intro gb324 hg w12 hbox hb; have n0_ := Aside0.mk (below_step bA hb); have n1_ := Aside0.mk (hbox); have n2_ := Aside0.mk ((by rw [hg]; exact (below_size bA) : w.heap.size ≤ gb324)); have n3_ := Aside0.mk ((by rw [hg]; exact (below_size bA) : w.heap.size ≤ gb324)); clear HB; have HB := n0_; have BK324 := n1_; have GW324 := n2_; have GE324 := n3_; clear n0_ n1_ n2_ n3_; clear hb hbox hg; have hcz13_0 : w12.cell? ⟨gb324,0,none⟩ = some (.int .i64 a0_0) := (blk_cell BK324.out 0).trans rfl; have hcz13_1 : w12.cell? ⟨gb324,1,none⟩ = some (.int .i64 a0_1) := (blk_cell BK324.out 1).trans rfl; have hcz13_2 : w12.cell? ⟨gb324,2,none⟩ = some (.slice A0_2 l0_2.length c0_2) := (blk_cell BK324.out 2).trans rfl; have hcz13_3 : w12.cell? ⟨gb324,3,none⟩ = some (.slice A0_3 l0_3.length c0_3) := (blk_cell BK324.out 3).trans rfl; have hcz13_4 : w12.cell? ⟨gb324,4,none⟩ = some (.int .i64 a0_4) := (blk_cell BK324.out 4).trans rfl; have hcz13_5 : w12.cell? ⟨gb324,5,none⟩ = some (.int .i64 a0_5) := (blk_cell BK324.out 5).trans rfl; have hcz13_6 : w12.cell? ⟨gb324,6,none⟩ = some (.int .i64 a0_6) := (blk_cell BK324.out 6).trans rfl; have hcz13_7 : w12.cell? ⟨gb324,7,none⟩ = some (.int .i64 a0_7) := (blk_cell BK324.out 7).trans rfl; have hcz13_8 : w12.cell? ⟨gb324,8,none⟩ = some (.int .i64 a0_8) := (blk_cell BK324.out 8).trans rfl; have hcz13_9 : w12.cell? ⟨gb324,9,none⟩ = some (.int .i64 a0_9) := (blk_cell BK324.out 9).trans rfl; have hfz13_0 := blk_frozen BK324.out 0; have hfz13_1 := blk_frozen BK324.out 1; have hfz13_2 := blk_frozen BK324.out 2; have hfz13_3 := blk_frozen BK324.out 3; have hfz13_4 := blk_frozen BK324.out 4; have hfz13_5 := blk_frozen BK324.out 5; have hfz13_6 := blk_frozen BK324.out 6; have hfz13_7 := blk_frozen BK324.out 7; have hfz13_8 := blk_frozen BK324.out 8; have hfz13_9 := blk_frozen BK324.out 9) | ((with_reducible refine gate_callee (f:=6) rfl ?_); refine goesL_ (some 15) rfl rfl Tryd.func6 (by kernel_rfl) rfl #[.agg #[.int .i64 a0_0,.int .i64 a0_1,.slice A0_2 l0_2.length c0_2,.slice A0_3 l0_3.length c0_3,.int .i64 a0_4,.int .i64 a0_5,.int .i64 a0_6,.int .i64 a0_7,.int .i64 a0_8,.int .i64 a0_9],.int .i64 1048576] rfl mA ?_; (with_reducible refine (laws_szState.calls k a0_0 a0_1 _ _ l0_2 _ _ l0_3 a0_4 a0_5 a0_6 a0_7 a0_8 a0_9 1048576 t325 _ ?side1 ?side2 ?side3 ?side4 A2.out).mono ?_); (case side1 => repeat (first | exact (Kd.C_below HR0_2.out HB.out) | (with_reducible refine Kd.C_alloc ?_ _) | (with_reducible refine Kd.C_drewN ?_ _) | (with_reducible refine Kd.C_drew ?_))); (case side2 => exact HC0_2.out); (case side3 => repeat (first | exact (Kd.C_below HR0_3.out HB.out) | (with_reducible refine Kd.C_alloc ?_ _) | (with_reducible refine Kd.C_drewN ?_ _) | (with_reducible refine Kd.C_drew ?_))); (case side4 => exact HC0_3.out); rintro e w14 ⟨rfl,hb⟩; refine ⟨_,rfl,?_⟩; have n0_ := Aside0.mk (blk_below (g:=gb324) (o:=.cells #[.int .i64 a0_0,.int .i64 a0_1,.slice A0_2 l0_2.length c0_2,.slice A0_3 l0_3.length c0_3,.int .i64 a0_4,.int .i64 a0_5,.int .i64 a0_6,.int .i64 a0_7,.int .i64 a0_8,.int .i64 a0_9] 26 (0,0)) (kA BK324.out) hb); have n1_ := Aside0.mk (below_step bA hb); clear BK324; clear HB; have BK324 := n0_; have HB := n1_; clear n0_ n1_; (try clear hb); (try clear hb2); (try clear hk); (try clear hi); have hcz15_0 : w14.cell? ⟨gb324,0,none⟩ = some (.int .i64 a0_0) := (blk_cell BK324.out 0).trans rfl; have hcz15_1 : w14.cell? ⟨gb324,1,none⟩ = some (.int .i64 a0_1) := (blk_cell BK324.out 1).trans rfl; have hcz15_2 : w14.cell? ⟨gb324,2,none⟩ = some (.slice A0_2 l0_2.length c0_2) := (blk_cell BK324.out 2).trans rfl; have hcz15_3 : w14.cell? ⟨gb324,3,none⟩ = some (.slice A0_3 l0_3.length c0_3) := (blk_cell BK324.out 3).trans rfl; have hcz15_4 : w14.cell? ⟨gb324,4,none⟩ = some (.int .i64 a0_4) := (blk_cell BK324.out 4).trans rfl; have hcz15_5 : w14.cell? ⟨gb324,5,none⟩ = some (.int .i64 a0_5) := (blk_cell BK324.out 5).trans rfl; have hcz15_6 : w14.cell? ⟨gb324,6,none⟩ = some (.int .i64 a0_6) := (blk_cell BK324.out 6).trans rfl; have hcz15_7 : w14.cell? ⟨gb324,7,none⟩ = some (.int .i64 a0_7) := (blk_cell BK324.out 7).trans rfl; have hcz15_8 : w14.cell? ⟨gb324,8,none⟩ = some (.int .i64 a0_8) := (blk_cell BK324.out 8).trans rfl; have hcz15_9 : w14.cell? ⟨gb324,9,none⟩ = some (.int .i64 a0_9) := (blk_cell BK324.out 9).trans rfl; have hfz15_0 := blk_frozen BK324.out 0; have hfz15_1 := blk_frozen BK324.out 1; have hfz15_2 := blk_frozen BK324.out 2; have hfz15_3 := blk_frozen BK324.out 3; have hfz15_4 := blk_frozen BK324.out 4; have hfz15_5 := blk_frozen BK324.out 5; have hfz15_6 := blk_frozen BK324.out 6; have hfz15_7 := blk_frozen BK324.out 7; have hfz15_8 := blk_frozen BK324.out 8; have hfz15_9 := blk_frozen BK324.out 9) | ((with_reducible refine gate_callee (f:=8) rfl ?_); refine goesL_ (some 20) rfl rfl Tryd.func8 (by kernel_rfl) rfl #[.agg #[.int .i64 a0_0,.int .i64 a0_1,.slice A0_2 l0_2.length c0_2,.slice A0_3 l0_3.length c0_3,.int .i64 a0_4,.int .i64 a0_5,.int .i64 a0_6,.int .i64 a0_7,.int .i64 a0_8,.int .i64 a0_9]] rfl mA ?_; (with_reducible refine (laws_toState.calls k a0_0 a0_1 _ _ l0_2 _ _ l0_3 a0_4 a0_5 a0_6 a0_7 a0_8 a0_9 t326 t327 t328 t331 t334 t335 t336 t337 t338 t339 _ ?side1 ?side2 ?side3 ?side4 A7.out).mono ?_); (case side1 => repeat (first | exact (Kd.C_below HR0_2.out HB.out) | (with_reducible refine Kd.C_alloc ?_ _) | (with_reducible refine Kd.C_drewN ?_ _) | (with_reducible refine Kd.C_drew ?_))); (case side2 => exact HC0_2.out); (case side3 => repeat (first | exact (Kd.C_below HR0_3.out HB.out) | (with_reducible refine Kd.C_alloc ?_ _) | (with_reducible refine Kd.C_drewN ?_ _) | (with_reducible refine Kd.C_drew ?_))); (case side4 => exact HC0_3.out); rintro e w16 ⟨v329,v332,rfl,ho0,ho1,hb⟩; refine ⟨_,rfl,?_⟩; have n0_ := Aside0.mk (Kd.R_lower ho0 (below_size bA)); have n1_ := Aside0.mk (Kd.R_lower ho1 (below_size bA)); have n2_ := Aside0.mk (blk_below (g:=gb324) (o:=.cells #[.int .i64 a0_0,.int .i64 a0_1,.slice A0_2 l0_2.length c0_2,.slice A0_3 l0_3.length c0_3,.int .i64 a0_4,.int .i64 a0_5,.int .i64 a0_6,.int .i64 a0_7,.int .i64 a0_8,.int .i64 a0_9] 26 (0,0)) (kA BK324.out) hb); have n3_ := Aside0.mk (below_step bA hb); clear BK324; clear HB; have HO330 := n0_; have HO333 := n1_; have BK324 := n2_; have HB := n3_; clear n0_ n1_ n2_ n3_; (try clear hb); (try clear hb2); (try clear hk); (try clear hi); (try clear ho0); (try clear ho1); obtain ⟨Ao17,co17,eo17⟩ := Kd.R_slice HO330.out; subst eo17; obtain ⟨Ao18,co18,eo18⟩ := Kd.R_slice HO333.out; subst eo18) | ((with_reducible refine gate_callee (f:=11) rfl ?_); refine goesL_ (some 21) rfl rfl Tryd.func11 (by kernel_rfl) rfl #[.agg #[.int .i64 t326,.int .i64 t327,.slice Ao17 t328.length co17,.slice Ao18 t331.length co18,.int .i64 t334,.int .i64 t335,.int .i64 t336,.int .i64 t337,.int .i64 t338,.int .i64 t339]] rfl mA ?_; (with_reducible refine (spec_DueWindow.calls k t326 t327 _ _ t328 _ _ t331 t334 t335 t336 t337 t338 t339 t340 t341 t342 t343 _ ?side1 ?side2 ?side3 ?side4 A8.out).mono ?_); (case side1 => repeat (first | exact (Kd.R_reads' HO330.out).2.2 | (with_reducible refine Kd.C_alloc ?_ _) | (with_reducible refine Kd.C_drewN ?_ _) | (with_reducible refine Kd.C_drew ?_))); (case side2 => exact (Kd.R_reads' HO330.out).2.1); (case side3 => repeat (first | exact (Kd.R_reads' HO333.out).2.2 | (with_reducible refine Kd.C_alloc ?_ _) | (with_reducible refine Kd.C_drewN ?_ _) | (with_reducible refine Kd.C_drew ?_))); (case side4 => exact (Kd.R_reads' HO333.out).2.1); rintro e w19 ⟨rfl,hb⟩; refine ⟨_,rfl,?_⟩; have n0_ := Aside0.mk (Kd.R_below (rA HO330.out) hb); have n1_ := Aside0.mk (Kd.R_below (rA HO333.out) hb); have n2_ := Aside0.mk (blk_below (g:=gb324) (o:=.cells #[.int .i64 a0_0,.int .i64 a0_1,.slice A0_2 l0_2.length c0_2,.slice A0_3 l0_3.length c0_3,.int .i64 a0_4,.int .i64 a0_5,.int .i64 a0_6,.int .i64 a0_7,.int .i64 a0_8,.int .i64 a0_9] 26 (0,0)) (kA BK324.out) hb); have n3_ := Aside0.mk (below_step bA hb); clear HO330; clear HO333; clear BK324; clear HB; have HO330 := n0_; have HO333 := n1_; have BK324 := n2_; have HB := n3_; clear n0_ n1_ n2_ n3_; (try clear hb); (try clear hb2); (try clear hk); (try clear hi); have hcz20_0 : w19.cell? ⟨gb324,0,none⟩ = some (.int .i64 a0_0) := (blk_cell BK324.out 0).trans rfl; have hcz20_1 : w19.cell? ⟨gb324,1,none⟩ = some (.int .i64 a0_1) := (blk_cell BK324.out 1).trans rfl; have hcz20_2 : w19.cell? ⟨gb324,2,none⟩ = some (.slice A0_2 l0_2.length c0_2) := (blk_cell BK324.out 2).trans rfl; have hcz20_3 : w19.cell? ⟨gb324,3,none⟩ = some (.slice A0_3 l0_3.length c0_3) := (blk_cell BK324.out 3).trans rfl; have hcz20_4 : w19.cell? ⟨gb324,4,none⟩ = some (.int .i64 a0_4) := (blk_cell BK324.out 4).trans rfl; have hcz20_5 : w19.cell? ⟨gb324,5,none⟩ = some (.int .i64 a0_5) := (blk_cell BK324.out 5).trans rfl; have hcz20_6 : w19.cell? ⟨gb324,6,none⟩ = some (.int .i64 a0_6) := (blk_cell BK324.out 6).trans rfl; have hcz20_7 : w19.cell? ⟨gb324,7,none⟩ = some (.int .i64 a0_7) := (blk_cell BK324.out 7).trans rfl; have hcz20_8 : w19.cell? ⟨gb324,8,none⟩ = some (.int .i64 a0_8) := (blk_cell BK324.out 8).trans rfl; have hcz20_9 : w19.cell? ⟨gb324,9,none⟩ = some (.int .i64 a0_9) := (blk_cell BK324.out 9).trans rfl; have hfz20_0 := blk_frozen BK324.out 0; have hfz20_1 := blk_frozen BK324.out 1; have hfz20_2 := blk_frozen BK324.out 2; have hfz20_3 := blk_frozen BK324.out 3; have hfz20_4 := blk_frozen BK324.out 4; have hfz20_5 := blk_frozen BK324.out 5; have hfz20_6 := blk_frozen BK324.out 6; have hfz20_7 := blk_frozen BK324.out 7; have hfz20_8 := blk_frozen BK324.out 8; have hfz20_9 := blk_frozen BK324.out 9) | ((with_reducible refine gate_callee (f:=8) rfl ?_); refine goesL_ (some 27) rfl rfl Tryd.func8 (by kernel_rfl) rfl #[.agg #[.int .i64 a0_0,.int .i64 a0_1,.slice A0_2 l0_2.length c0_2,.slice A0_3 l0_3.length c0_3,.int .i64 a0_4,.int .i64 a0_5,.int .i64 a0_6,.int .i64 a0_7,.int .i64 a0_8,.int .i64 a0_9]] rfl mA ?_; (with_reducible refine (laws_toState.calls k a0_0 a0_1 _ _ l0_2 _ _ l0_3 a0_4 a0_5 a0_6 a0_7 a0_8 a0_9 t344 t345 t346 t349 t352 t353 t354 t355 t356 t357 _ ?side1 ?side2 ?side3 ?side4 A9.out).mono ?_); (case side1 => repeat (first | exact (Kd.C_below HR0_2.out HB.out) | (with_reducible refine Kd.C_alloc ?_ _) | (with_reducible refine Kd.C_drewN ?_ _) | (with_reducible refine Kd.C_drew ?_))); (case side2 => exact HC0_2.out); (case side3 => repeat (first | exact (Kd.C_below HR0_3.out HB.out) | (with_reducible refine Kd.C_alloc ?_ _) | (with_reducible refine Kd.C_drewN ?_ _) | (with_reducible refine Kd.C_drew ?_))); (case side4 => exact HC0_3.out); rintro e w21 ⟨v347,v350,rfl,ho0,ho1,hb⟩; refine ⟨_,rfl,?_⟩; have n0_ := Aside0.mk (Kd.R_elder' (rA HO330.out) (Kd.R_base ho0) hb); have n1_ := Aside0.mk (Kd.R_elder' (rA HO333.out) (Kd.R_base ho1) hb); have n2_ := Aside0.mk (Kd.R_lower (Kd.R_new' ho0 (Kd.R_lt (rA HO330.out))) (below_size bA)); have n3_ := Aside0.mk (Kd.R_lower (Kd.R_new' ho1 (Kd.R_lt (rA HO333.out))) (below_size bA)); have n4_ := Aside0.mk (blk_below (g:=gb324) (o:=.cells #[.int .i64 a0_0,.int .i64 a0_1,.slice A0_2 l0_2.length c0_2,.slice A0_3 l0_3.length c0_3,.int .i64 a0_4,.int .i64 a0_5,.int .i64 a0_6,.int .i64 a0_7,.int .i64 a0_8,.int .i64 a0_9] 26 (0,0)) (kA BK324.out) hb); have n5_ := Aside0.mk (below_step bA hb); clear HO330; clear HO333; clear BK324; clear HB; have HO330 := n0_; have HO333 := n1_; have HO348 := n2_; have HO351 := n3_; have BK324 := n4_; have HB := n5_; clear n0_ n1_ n2_ n3_ n4_ n5_; (try clear hb); (try clear hb2); (try clear hk); (try clear hi); (try clear ho0); (try clear ho1)) | ((with_reducible refine gate_dst (N:=8) rfl ?_); refine box_event ?hg (N:=8) ?hd (cs := #[.int .i64 0,.int .i64 0,.slice none 0 0,.slice none 0 0,.int .i64 0,.int .i64 0,.int .i64 0,.int .i64 0,.int .i64 0,.int .i64 0]) (t:=32) ?hr ?_; (case hd => rfl); (case hg => rfl); (case hr => first | (go_simp; done) | (go_simp; rfl)); intro gb358 hg w22 hbox hb; have n0_ := Aside0.mk (Kd.R_below (rA HO330.out) hb); have n1_ := Aside0.mk (Kd.R_below (rA HO333.out) hb); have n2_ := Aside0.mk (Kd.R_below (rA HO348.out) hb); have n3_ := Aside0.mk (Kd.R_below (rA HO351.out) hb); have n4_ := Aside0.mk (blk_below (g:=gb324) (o:=.cells #[.int .i64 a0_0,.int .i64 a0_1,.slice A0_2 l0_2.length c0_2,.slice A0_3 l0_3.length c0_3,.int .i64 a0_4,.int .i64 a0_5,.int .i64 a0_6,.int .i64 a0_7,.int .i64 a0_8,.int .i64 a0_9] 26 (0,0)) (kA BK324.out) hb); have n5_ := Aside0.mk (below_step bA hb); have n6_ := Aside0.mk (hbox); have n7_ := Aside0.mk ((by rw [hg]; exact (below_size bA) : w.heap.size ≤ gb358)); have n8_ := Aside0.mk ((by rw [hg]; exact (below_size bA) : w.heap.size ≤ gb358)); have n9_ := Aside0.mk ((by rw [hg]; exact Nat.ne_of_lt (blk_lt (g:=gb324) (o:=.cells #[.int .i64 a0_0,.int .i64 a0_1,.slice A0_2 l0_2.length c0_2,.slice A0_3 l0_3.length c0_3,.int .i64 a0_4,.int .i64 a0_5,.int .i64 a0_6,.int .i64 a0_7,.int .i64 a0_8,.int .i64 a0_9] 26 (0,0)) (kA BK324.out)) : gb324 ≠ gb358)); have n10_ := Aside0.mk ((by rw [hg]; exact Nat.ne_of_gt (blk_lt (g:=gb324) (o:=.cells #[.int .i64 a0_0,.int .i64 a0_1,.slice A0_2 l0_2.length c0_2,.slice A0_3 l0_3.length c0_3,.int .i64 a0_4,.int .i64 a0_5,.int .i64 a0_6,.int .i64 a0_7,.int .i64 a0_8,.int .i64 a0_9] 26 (0,0)) (kA BK324.out)) : gb358 ≠ gb324)); clear HO330; clear HO333; clear HO348; clear HO351; clear BK324; clear HB; have HO330 := n0_; have HO333 := n1_; have HO348 := n2_; have HO351 := n3_; have BK324 := n4_; have HB := n5_; have BK358 := n6_; have GW358 := n7_; have GE358 := n8_; have NB324_358 := n9_; have NB358_324 := n10_; clear n0_ n1_ n2_ n3_ n4_ n5_ n6_ n7_ n8_ n9_ n10_; clear hb hbox hg; have hnb23 := NB358_324.out; have hnc23 := NB324_358.out; have hcz24_0 : w22.cell? ⟨gb358,0,none⟩ = some (.int .i64 0) := (blk_cell BK358.out 0).trans rfl; have hcz24_1 : w22.cell? ⟨gb358,1,none⟩ = some (.int .i64 0) := (blk_cell BK358.out 1).trans rfl; have hcz24_2 : w22.cell? ⟨gb358,2,none⟩ = some (.slice none 0 0) := (blk_cell BK358.out 2).trans rfl; have hcz24_3 : w22.cell? ⟨gb358,3,none⟩ = some (.slice none 0 0) := (blk_cell BK358.out 3).trans rfl; have hcz24_4 : w22.cell? ⟨gb358,4,none⟩ = some (.int .i64 0) := (blk_cell BK358.out 4).trans rfl; have hcz24_5 : w22.cell? ⟨gb358,5,none⟩ = some (.int .i64 0) := (blk_cell BK358.out 5).trans rfl; have hcz24_6 : w22.cell? ⟨gb358,6,none⟩ = some (.int .i64 0) := (blk_cell BK358.out 6).trans rfl; have hcz24_7 : w22.cell? ⟨gb358,7,none⟩ = some (.int .i64 0) := (blk_cell BK358.out 7).trans rfl; have hcz24_8 : w22.cell? ⟨gb358,8,none⟩ = some (.int .i64 0) := (blk_cell BK358.out 8).trans rfl; have hcz24_9 : w22.cell? ⟨gb358,9,none⟩ = some (.int .i64 0) := (blk_cell BK358.out 9).trans rfl; have hfz24_0 := blk_frozen BK358.out 0; have hfz24_1 := blk_frozen BK358.out 1; have hfz24_2 := blk_frozen BK358.out 2; have hfz24_3 := blk_frozen BK358.out 3; have hfz24_4 := blk_frozen BK358.out 4; have hfz24_5 := blk_frozen BK358.out 5; have hfz24_6 := blk_frozen BK358.out 6; have hfz24_7 := blk_frozen BK358.out 7; have hfz24_8 := blk_frozen BK358.out 8; have hfz24_9 := blk_frozen BK358.out 9; obtain ⟨Ao25,co25,eo25⟩ := Kd.R_slice HO348.out; subst eo25; obtain ⟨Ao26,co26,eo26⟩ := Kd.R_slice HO351.out; subst eo26) | ((with_reducible refine gate_callee (f:=12) rfl ?_); refine goesL_ (some 30) rfl rfl Tryd.func12 (by kernel_rfl) rfl #[.agg #[.int .i64 t344,.int .i64 t345,.slice Ao25 t346.length co25,.slice Ao26 t349.length co26,.int .i64 t352,.int .i64 t353,.int .i64 t354,.int .i64 t355,.int .i64 t356,.int .i64 t357]] rfl mA ?_; (with_reducible refine (impl_DueWindow.calls k t344 t345 _ _ t346 _ _ t349 t352 t353 t354 t355 t356 t357 t359 t360 t361 t362 _ ?side1 ?side2 ?side3 ?side4 ?side5 A10.out).mono ?_); (case side1 => exact HV.out.below bA); (case side2 => refine (Kd.R_reads' (e:=39) (base := w.heap.size) (ok := fun k_ => (True ∧ some k_ ≠ (.slice Ao17 t328.length co17 : Value).ownBlock)) (n:=t346.length) (c:=co25) ?_).2.2; exact (by (with_reducible repeat (first | apply Kd.R_alloc | apply Kd.R_drewN | apply Kd.R_drew)); exact (Kd.R_mono (Kd.R_far (p:=⟨gb358,9,none⟩) (Kd.R_far (p:=⟨gb358,8,none⟩) (Kd.R_far (p:=⟨gb358,7,none⟩) (Kd.R_far (p:=⟨gb358,6,none⟩) (Kd.R_far (p:=⟨gb358,5,none⟩) (Kd.R_far (p:=⟨gb358,4,none⟩) (Kd.R_far (p:=⟨gb358,3,none⟩) (Kd.R_far (p:=⟨gb358,2,none⟩) (Kd.R_far (p:=⟨gb358,1,none⟩) (Kd.R_far (p:=⟨gb358,0,none⟩) (Kd.R_types HO348.out BK358.out (by decide)) (fun _ hk => hk.2) (.int .i64 t344)) (fun _ hk => hk.2) (.int .i64 t345)) (fun _ hk => hk.2) (.slice Ao25 t346.length co25)) (fun _ hk => hk.2) (.slice Ao26 t349.length co26)) (fun _ hk => hk.2) (.int .i64 t352)) (fun _ hk => hk.2) (.int .i64 t353)) (fun _ hk => hk.2) (.int .i64 t354)) (fun _ hk => hk.2) (.int .i64 t355)) (fun _ hk => hk.2) (.int .i64 t356)) (fun _ hk => hk.2) (.int .i64 t357)) (fun _ h_ => h_.1)))); (case side3 => exact (Kd.R_reads' HO348.out).2.1); (case side4 => refine (Kd.R_reads' (e:=55) (base := w.heap.size) (ok := fun k_ => (True ∧ some k_ ≠ (.slice Ao18 t331.length co18 : Value).ownBlock)) (n:=t349.length) (c:=co26) ?_).2.2; exact (by (with_reducible repeat (first | apply Kd.R_alloc | apply Kd.R_drewN | apply Kd.R_drew)); exact (Kd.R_mono (Kd.R_far (p:=⟨gb358,9,none⟩) (Kd.R_far (p:=⟨gb358,8,none⟩) (Kd.R_far (p:=⟨gb358,7,none⟩) (Kd.R_far (p:=⟨gb358,6,none⟩) (Kd.R_far (p:=⟨gb358,5,none⟩) (Kd.R_far (p:=⟨gb358,4,none⟩) (Kd.R_far (p:=⟨gb358,3,none⟩) (Kd.R_far (p:=⟨gb358,2,none⟩) (Kd.R_far (p:=⟨gb358,1,none⟩) (Kd.R_far (p:=⟨gb358,0,none⟩) (Kd.R_types HO351.out BK358.out (by decide)) (fun _ hk => hk.2) (.int .i64 t344)) (fun _ hk => hk.2) (.int .i64 t345)) (fun _ hk => hk.2) (.slice Ao25 t346.length co25)) (fun _ hk => hk.2) (.slice Ao26 t349.length co26)) (fun _ hk => hk.2) (.int .i64 t352)) (fun _ hk => hk.2) (.int .i64 t353)) (fun _ hk => hk.2) (.int .i64 t354)) (fun _ hk => hk.2) (.int .i64 t355)) (fun _ hk => hk.2) (.int .i64 t356)) (fun _ hk => hk.2) (.int .i64 t357)) (fun _ h_ => h_.1)))); (case side5 => exact (Kd.R_reads' HO351.out).2.1); rintro e w27 ⟨rfl,hb⟩; refine ⟨_,rfl,?_⟩; have n0_ := Aside0.mk (Kd.R_below (by (with_reducible repeat (first | apply Kd.R_alloc | apply Kd.R_drewN | apply Kd.R_drew)); exact (Kd.R_mono (Kd.R_far (p:=⟨gb358,9,none⟩) (Kd.R_far (p:=⟨gb358,8,none⟩) (Kd.R_far (p:=⟨gb358,7,none⟩) (Kd.R_far (p:=⟨gb358,6,none⟩) (Kd.R_far (p:=⟨gb358,5,none⟩) (Kd.R_far (p:=⟨gb358,4,none⟩) (Kd.R_far (p:=⟨gb358,3,none⟩) (Kd.R_far (p:=⟨gb358,2,none⟩) (Kd.R_far (p:=⟨gb358,1,none⟩) (Kd.R_far (p:=⟨gb358,0,none⟩) (Kd.R_types HO330.out BK358.out (by decide)) (fun _ hk => hk.2) (.int .i64 t344)) (fun _ hk => hk.2) (.int .i64 t345)) (fun _ hk => hk.2) (.slice Ao25 t346.length co25)) (fun _ hk => hk.2) (.slice Ao26 t349.length co26)) (fun _ hk => hk.2) (.int .i64 t352)) (fun _ hk => hk.2) (.int .i64 t353)) (fun _ hk => hk.2) (.int .i64 t354)) (fun _ hk => hk.2) (.int .i64 t355)) (fun _ hk => hk.2) (.int .i64 t356)) (fun _ hk => hk.2) (.int .i64 t357)) (fun _ h_ => h_.1))) hb); have n1_ := Aside0.mk (Kd.R_below (by (with_reducible repeat (first | apply Kd.R_alloc | apply Kd.R_drewN | apply Kd.R_drew)); exact (Kd.R_mono (Kd.R_far (p:=⟨gb358,9,none⟩) (Kd.R_far (p:=⟨gb358,8,none⟩) (Kd.R_far (p:=⟨gb358,7,none⟩) (Kd.R_far (p:=⟨gb358,6,none⟩) (Kd.R_far (p:=⟨gb358,5,none⟩) (Kd.R_far (p:=⟨gb358,4,none⟩) (Kd.R_far (p:=⟨gb358,3,none⟩) (Kd.R_far (p:=⟨gb358,2,none⟩) (Kd.R_far (p:=⟨gb358,1,none⟩) (Kd.R_far (p:=⟨gb358,0,none⟩) (Kd.R_types HO333.out BK358.out (by decide)) (fun _ hk => hk.2) (.int .i64 t344)) (fun _ hk => hk.2) (.int .i64 t345)) (fun _ hk => hk.2) (.slice Ao25 t346.length co25)) (fun _ hk => hk.2) (.slice Ao26 t349.length co26)) (fun _ hk => hk.2) (.int .i64 t352)) (fun _ hk => hk.2) (.int .i64 t353)) (fun _ hk => hk.2) (.int .i64 t354)) (fun _ hk => hk.2) (.int .i64 t355)) (fun _ hk => hk.2) (.int .i64 t356)) (fun _ hk => hk.2) (.int .i64 t357)) (fun _ h_ => h_.1))) hb); have n2_ := Aside0.mk (Kd.R_below (by (with_reducible repeat (first | apply Kd.R_alloc | apply Kd.R_drewN | apply Kd.R_drew)); exact (Kd.R_mono (Kd.R_far (p:=⟨gb358,9,none⟩) (Kd.R_far (p:=⟨gb358,8,none⟩) (Kd.R_far (p:=⟨gb358,7,none⟩) (Kd.R_far (p:=⟨gb358,6,none⟩) (Kd.R_far (p:=⟨gb358,5,none⟩) (Kd.R_far (p:=⟨gb358,4,none⟩) (Kd.R_far (p:=⟨gb358,3,none⟩) (Kd.R_far (p:=⟨gb358,2,none⟩) (Kd.R_far (p:=⟨gb358,1,none⟩) (Kd.R_far (p:=⟨gb358,0,none⟩) (Kd.R_types HO348.out BK358.out (by decide)) (fun _ hk => hk.2) (.int .i64 t344)) (fun _ hk => hk.2) (.int .i64 t345)) (fun _ hk => hk.2) (.slice Ao25 t346.length co25)) (fun _ hk => hk.2) (.slice Ao26 t349.length co26)) (fun _ hk => hk.2) (.int .i64 t352)) (fun _ hk => hk.2) (.int .i64 t353)) (fun _ hk => hk.2) (.int .i64 t354)) (fun _ hk => hk.2) (.int .i64 t355)) (fun _ hk => hk.2) (.int .i64 t356)) (fun _ hk => hk.2) (.int .i64 t357)) (fun _ h_ => h_.1))) hb); have n3_ := Aside0.mk (Kd.R_below (by (with_reducible repeat (first | apply Kd.R_alloc | apply Kd.R_drewN | apply Kd.R_drew)); exact (Kd.R_mono (Kd.R_far (p:=⟨gb358,9,none⟩) (Kd.R_far (p:=⟨gb358,8,none⟩) (Kd.R_far (p:=⟨gb358,7,none⟩) (Kd.R_far (p:=⟨gb358,6,none⟩) (Kd.R_far (p:=⟨gb358,5,none⟩) (Kd.R_far (p:=⟨gb358,4,none⟩) (Kd.R_far (p:=⟨gb358,3,none⟩) (Kd.R_far (p:=⟨gb358,2,none⟩) (Kd.R_far (p:=⟨gb358,1,none⟩) (Kd.R_far (p:=⟨gb358,0,none⟩) (Kd.R_types HO351.out BK358.out (by decide)) (fun _ hk => hk.2) (.int .i64 t344)) (fun _ hk => hk.2) (.int .i64 t345)) (fun _ hk => hk.2) (.slice Ao25 t346.length co25)) (fun _ hk => hk.2) (.slice Ao26 t349.length co26)) (fun _ hk => hk.2) (.int .i64 t352)) (fun _ hk => hk.2) (.int .i64 t353)) (fun _ hk => hk.2) (.int .i64 t354)) (fun _ hk => hk.2) (.int .i64 t355)) (fun _ hk => hk.2) (.int .i64 t356)) (fun _ hk => hk.2) (.int .i64 t357)) (fun _ h_ => h_.1))) hb); have n4_ := Aside0.mk (blk_below (g:=gb324) (o:=.cells #[.int .i64 a0_0,.int .i64 a0_1,.slice A0_2 l0_2.length c0_2,.slice A0_3 l0_3.length c0_3,.int .i64 a0_4,.int .i64 a0_5,.int .i64 a0_6,.int .i64 a0_7,.int .i64 a0_8,.int .i64 a0_9] 26 (0,0)) (kF BK324.out) hb); have n5_ := Aside0.mk (blk_below (g:=gb358) (o:=.cells #[.int .i64 t344,.int .i64 t345,.slice Ao25 t346.length co25,.slice Ao26 t349.length co26,.int .i64 t352,.int .i64 t353,.int .i64 t354,.int .i64 t355,.int .i64 t356,.int .i64 t357] 32 (0,0)) (by (with_reducible repeat (first | refine blk_drewN ?_ _ | refine blk_drew ?_ | refine blk_alloc ?_ _)); refine blk_put (cs := #[.int .i64 t344,.int .i64 t345,.slice Ao25 t346.length co25,.slice Ao26 t349.length co26,.int .i64 t352,.int .i64 t353,.int .i64 t354,.int .i64 t355,.int .i64 t356,.int .i64 0]) ?_ 9 _ rfl; (with_reducible repeat (first | refine blk_drewN ?_ _ | refine blk_drew ?_ | refine blk_alloc ?_ _)); refine blk_put (cs := #[.int .i64 t344,.int .i64 t345,.slice Ao25 t346.length co25,.slice Ao26 t349.length co26,.int .i64 t352,.int .i64 t353,.int .i64 t354,.int .i64 t355,.int .i64 0,.int .i64 0]) ?_ 8 _ rfl; (with_reducible repeat (first | refine blk_drewN ?_ _ | refine blk_drew ?_ | refine blk_alloc ?_ _)); refine blk_put (cs := #[.int .i64 t344,.int .i64 t345,.slice Ao25 t346.length co25,.slice Ao26 t349.length co26,.int .i64 t352,.int .i64 t353,.int .i64 t354,.int .i64 0,.int .i64 0,.int .i64 0]) ?_ 7 _ rfl; (with_reducible repeat (first | refine blk_drewN ?_ _ | refine blk_drew ?_ | refine blk_alloc ?_ _)); refine blk_put (cs := #[.int .i64 t344,.int .i64 t345,.slice Ao25 t346.length co25,.slice Ao26 t349.length co26,.int .i64 t352,.int .i64 t353,.int .i64 0,.int .i64 0,.int .i64 0,.int .i64 0]) ?_ 6 _ rfl; (with_reducible repeat (first | refine blk_drewN ?_ _ | refine blk_drew ?_ | refine blk_alloc ?_ _)); refine blk_put (cs := #[.int .i64 t344,.int .i64 t345,.slice Ao25 t346.length co25,.slice Ao26 t349.length co26,.int .i64 t352,.int .i64 0,.int .i64 0,.int .i64 0,.int .i64 0,.int .i64 0]) ?_ 5 _ rfl; (with_reducible repeat (first | refine blk_drewN ?_ _ | refine blk_drew ?_ | refine blk_alloc ?_ _)); refine blk_put (cs := #[.int .i64 t344,.int .i64 t345,.slice Ao25 t346.length co25,.slice Ao26 t349.length co26,.int .i64 0,.int .i64 0,.int .i64 0,.int .i64 0,.int .i64 0,.int .i64 0]) ?_ 4 _ rfl; (with_reducible repeat (first | refine blk_drewN ?_ _ | refine blk_drew ?_ | refine blk_alloc ?_ _)); refine blk_put (cs := #[.int .i64 t344,.int .i64 t345,.slice Ao25 t346.length co25,.slice none 0 0,.int .i64 0,.int .i64 0,.int .i64 0,.int .i64 0,.int .i64 0,.int .i64 0]) ?_ 3 _ rfl; (with_reducible repeat (first | refine blk_drewN ?_ _ | refine blk_drew ?_ | refine blk_alloc ?_ _)); refine blk_put (cs := #[.int .i64 t344,.int .i64 t345,.slice none 0 0,.slice none 0 0,.int .i64 0,.int .i64 0,.int .i64 0,.int .i64 0,.int .i64 0,.int .i64 0]) ?_ 2 _ rfl; (with_reducible repeat (first | refine blk_drewN ?_ _ | refine blk_drew ?_ | refine blk_alloc ?_ _)); refine blk_put (cs := #[.int .i64 t344,.int .i64 0,.slice none 0 0,.slice none 0 0,.int .i64 0,.int .i64 0,.int .i64 0,.int .i64 0,.int .i64 0,.int .i64 0]) ?_ 1 _ rfl; (with_reducible repeat (first | refine blk_drewN ?_ _ | refine blk_drew ?_ | refine blk_alloc ?_ _)); refine blk_put (cs := #[.int .i64 0,.int .i64 0,.slice none 0 0,.slice none 0 0,.int .i64 0,.int .i64 0,.int .i64 0,.int .i64 0,.int .i64 0,.int .i64 0]) ?_ 0 _ rfl; (with_reducible repeat (first | refine blk_drewN ?_ _ | refine blk_drew ?_ | refine blk_alloc ?_ _)); exact BK358.out) hb); have n6_ := Aside0.mk (below_step bA hb); clear HO330; clear HO333; clear HO348; clear HO351; clear BK324; clear BK358; clear HB; have HO330 := n0_; have HO333 := n1_; have HO348 := n2_; have HO351 := n3_; have BK324 := n4_; have BK358 := n5_; have HB := n6_; clear n0_ n1_ n2_ n3_ n4_ n5_ n6_; (try clear hb); (try clear hb2); (try clear hk); (try clear hi)))
  (try simp only [Act.put,setIfInBounds_toArray,set_cons_zero,set_cons_succ])
  go_cut [52] (fun v52 wc => ∃ (kq : Nat) (x52_10 : Bool),v52 = .bool x52_10 ∧ Aside0 (laws_FnExactDueWindow.j0 kq x52_10 a0_0 a0_1 l0_2 l0_3 a0_4 a0_5 a0_6 a0_7 a0_8 a0_9 t344 t345 t346 t349 t352 t353 t354 t355 t356 t357 = some r) ∧ Aside0 (kq ≤ k) ∧ Aside0 (Kd.R k39 39 wc w.heap.size (fun _ => True) (.slice Ao25 t346.length co25) t346) ∧ Aside0 (Kd.R k55 55 wc w.heap.size (fun _ => True) (.slice Ao26 t349.length co26) t349) ∧ Aside0 (wc.heap[gb324]? = some (.cells #[.int .i64 a0_0,.int .i64 a0_1,(.slice A0_2 l0_2.length c0_2),(.slice A0_3 l0_3.length c0_3),.int .i64 a0_4,.int .i64 a0_5,.int .i64 a0_6,.int .i64 a0_7,.int .i64 a0_8,.int .i64 a0_9] 26 (0,0))) ∧ Aside0 (wc.heap[gb358]? = some (.cells #[.int .i64 t344,.int .i64 t345,(.slice Ao25 t346.length co25),(.slice Ao26 t349.length co26),.int .i64 t352,.int .i64 t353,.int .i64 t354,.int .i64 t355,.int .i64 t356,.int .i64 t357] 32 (0,0))) ∧ Aside0 (Below w.heap.size w wc))
  case first =>
   have H := HC11.out
   clear HC11
   by_cases c28 : t359 = t340
   ·rw [if_pos c28] at H
    have c28b0 : (t359 == t340) = true := beq_iff_eq.mpr c28
    have c28b1 : (t359 != t340) = false := bne_eq_false_iff_eq.mpr c28
    clear c28
    (first | rw [c28b0] | (simp only [i64_w,i32_w]; rw [c28b0]) | skip)
    by_cases c29 : t360 = t341
    ·rw [if_pos c29] at H
     have c29b0 : (t360 == t341) = true := beq_iff_eq.mpr c29
     have c29b1 : (t360 != t341) = false := bne_eq_false_iff_eq.mpr c29
     clear c29
     by_cases c30 : (t361 != t342) = true
     ·rw [if_pos c30] at H
      have c30b0 : (t361 != t342) = true := c30
      (try (have c30b1 : decide (t361 = t342) = false := by simpa using c30))
      (try (have c30b2 : (t361 == t342) = false := by simpa using c30))
      (try (have c30b3 : ¬ (t361 = t342) := by simpa using c30))
      clear c30
      have H' := Aside0.mk H
      clear H
      go_wp2
      go_meet
      case rel => exact ⟨_,(true),(by first | rfl | (simp; done) | (simp [*]; done)),H',⟨by first | omega | exact Nat.le_refl _⟩,⟨by (with_reducible repeat (first | apply Kd.R_alloc | apply Kd.R_drewN | apply Kd.R_drew)); exact Kd.R_mono HO348.out (fun _ hk => trivial)⟩,⟨by (with_reducible repeat (first | apply Kd.R_alloc | apply Kd.R_drewN | apply Kd.R_drew)); exact Kd.R_mono HO351.out (fun _ hk => trivial)⟩,⟨kA BK324.out⟩,⟨kA BK358.out⟩,⟨bA⟩⟩
     ·rw [if_neg c30] at H
      have c30b0 : (t361 != t342) = false := by simpa using c30
      (try (have c30b1 : decide (t361 = t342) = true := by simpa using c30))
      (try (have c30b2 : (t361 == t342) = true := by simpa using c30))
      clear c30
      have H' := Aside0.mk H
      clear H
      go_wp2
      go_meet
      case rel => exact ⟨_,((t362 != t343)),(by first | rfl | (simp; done) | (simp [*]; done)),H',⟨by first | omega | exact Nat.le_refl _⟩,⟨by (with_reducible repeat (first | apply Kd.R_alloc | apply Kd.R_drewN | apply Kd.R_drew)); exact Kd.R_mono HO348.out (fun _ hk => trivial)⟩,⟨by (with_reducible repeat (first | apply Kd.R_alloc | apply Kd.R_drewN | apply Kd.R_drew)); exact Kd.R_mono HO351.out (fun _ hk => trivial)⟩,⟨kA BK324.out⟩,⟨kA BK358.out⟩,⟨bA⟩⟩
    ·rw [if_neg c29] at H
     have c29b0 : (t360 == t341) = false := beq_eq_false_iff_ne.mpr c29
     have c29b1 : (t360 != t341) = true := bne_iff_ne.mpr c29
     have H' := Aside0.mk H
     clear H
     go_wp2
     go_meet
     case rel => exact ⟨_,(true),(by first | rfl | (simp; done) | (simp [*]; done)),H',⟨by first | omega | exact Nat.le_refl _⟩,⟨by (with_reducible repeat (first | apply Kd.R_alloc | apply Kd.R_drewN | apply Kd.R_drew)); exact Kd.R_mono HO348.out (fun _ hk => trivial)⟩,⟨by (with_reducible repeat (first | apply Kd.R_alloc | apply Kd.R_drewN | apply Kd.R_drew)); exact Kd.R_mono HO351.out (fun _ hk => trivial)⟩,⟨kA BK324.out⟩,⟨kA BK358.out⟩,⟨bA⟩⟩
   ·rw [if_neg c28] at H
    have c28b0 : (t359 == t340) = false := beq_eq_false_iff_ne.mpr c28
    have c28b1 : (t359 != t340) = true := bne_iff_ne.mpr c28
    (first | rw [c28b0] | (simp only [i64_w,i32_w]; rw [c28b0]) | skip)
    have H' := Aside0.mk H
    clear H
    go_wp2
    go_meet
    case rel => exact ⟨_,(true),(by first | rfl | (simp; done) | (simp [*]; done)),H',⟨by first | omega | exact Nat.le_refl _⟩,⟨by (with_reducible repeat (first | apply Kd.R_alloc | apply Kd.R_drewN | apply Kd.R_drew)); exact Kd.R_mono HO348.out (fun _ hk => trivial)⟩,⟨by (with_reducible repeat (first | apply Kd.R_alloc | apply Kd.R_drewN | apply Kd.R_drew)); exact Kd.R_mono HO351.out (fun _ hk => trivial)⟩,⟨kA BK324.out⟩,⟨kA BK358.out⟩,⟨bA⟩⟩
  case rest =>
   clear HC11
   try clear c1
   try clear c2
   try clear p2
   try clear c3
   try clear c3b0
   try clear c4
   try clear c6
   try clear c8
   try clear c11
   try clear c12
   try clear c23
   try clear c28
   try clear c28b0
   try clear c28b1
   try clear c29
   try clear c29b0
   try clear c29b1
   try clear c30
   try clear c30b0
   try clear c30b1
   try clear c30b2
   try clear hcz13_0
   try clear hcz13_1
   try clear hcz13_2
   try clear hcz13_3
   try clear hcz13_4
   try clear hcz13_5
   try clear hcz13_6
   try clear hcz13_7
   try clear hcz13_8
   try clear hcz13_9
   try clear hcz15_0
   try clear hcz15_1
   try clear hcz15_2
   try clear hcz15_3
   try clear hcz15_4
   try clear hcz15_5
   try clear hcz15_6
   try clear hcz15_7
   try clear hcz15_8
   try clear hcz15_9
   try clear hcz20_0
   try clear hcz20_1
   try clear hcz20_2
   try clear hcz20_3
   try clear hcz20_4
   try clear hcz20_5
   try clear hcz20_6
   try clear hcz20_7
   try clear hcz20_8
   try clear hcz20_9
   try clear hcz24_0
   try clear hcz24_1
   try clear hcz24_2
   try clear hcz24_3
   try clear hcz24_4
   try clear hcz24_5
   try clear hcz24_6
   try clear hcz24_7
   try clear hcz24_8
   try clear hcz24_9
   try clear hcz5_0
   try clear hcz5_1
   try clear hcz5_2
   try clear hcz5_3
   try clear hcz5_4
   try clear hcz5_5
   try clear hcz5_6
   try clear hcz5_7
   try clear hcz5_8
   try clear hcz5_9
   try clear hfz13_0
   try clear hfz13_1
   try clear hfz13_2
   try clear hfz13_3
   try clear hfz13_4
   try clear hfz13_5
   try clear hfz13_6
   try clear hfz13_7
   try clear hfz13_8
   try clear hfz13_9
   try clear hfz15_0
   try clear hfz15_1
   try clear hfz15_2
   try clear hfz15_3
   try clear hfz15_4
   try clear hfz15_5
   try clear hfz15_6
   try clear hfz15_7
   try clear hfz15_8
   try clear hfz15_9
   try clear hfz20_0
   try clear hfz20_1
   try clear hfz20_2
   try clear hfz20_3
   try clear hfz20_4
   try clear hfz20_5
   try clear hfz20_6
   try clear hfz20_7
   try clear hfz20_8
   try clear hfz20_9
   try clear hfz24_0
   try clear hfz24_1
   try clear hfz24_2
   try clear hfz24_3
   try clear hfz24_4
   try clear hfz24_5
   try clear hfz24_6
   try clear hfz24_7
   try clear hfz24_8
   try clear hfz24_9
   try clear hfz5_0
   try clear hfz5_1
   try clear hfz5_2
   try clear hfz5_3
   try clear hfz5_4
   try clear hfz5_5
   try clear hfz5_6
   try clear hfz5_7
   try clear hfz5_8
   try clear hfz5_9
   obtain ⟨kq,x52_10,rfl,HA,HJ10,HO_359002,HO_359003,BK324,BK358,HB⟩ := hcut
   cases kq with
   | zero => exact absurd HA.out (by simp [laws_FnExactDueWindow.j0])
   | succ kj10 =>
    have H := HA.out
    clear HA
    simp only [laws_FnExactDueWindow.j0] at H
    by_cases c31 : x52_10 = true
    ·subst c31
     rw [if_pos rfl] at H
     exact absurd H (by simp)
    ·replace c31 := Bool.eq_false_iff.mpr c31
     subst c31
     rw [if_neg (show ¬ (false = true) by decide)] at H
     replace H := Option.bind_eq_some_iff.mp H
     obtain ⟨⟨t363,t364,t365,t368,t371,t372,t373,t374,t375,t376⟩,A320,H⟩ := H
     try dsimp only at H
     have A32 := Aside0.mk A320
     clear A320
     replace H := Option.bind_eq_some_iff.mp H
     obtain ⟨t377,A330,H⟩ := H
     try dsimp only at H
     have A33 := Aside0.mk A330
     clear A330
     by_cases c34 : t377 = true
     ·subst c34
      rw [if_pos rfl] at H
      obtain rfl := Option.some.inj H
      try go_wp2
      have n0_ := Aside0.mk (Kd.R_drew HO_359002.out)
      have n1_ := Aside0.mk (Kd.R_drew HO_359003.out)
      have n2_ := Aside0.mk (blk_drew BK324.out)
      have n3_ := Aside0.mk (blk_drew BK358.out)
      have n4_ := Aside0.mk (below_drew1 HB.out)
      clear HO_359002
      clear HO_359003
      clear BK324
      clear BK358
      clear HB
      have HO_359002 := n0_
      have HO_359003 := n1_
      have BK324 := n2_
      have BK358 := n3_
      have HB := n4_
      clear n0_ n1_ n2_ n3_ n4_
      refine start_ (n:=5) (S:=fun w' => w'.cell? ⟨gb358,0,none⟩ = some (.int .i64 t344) ∧ w'.cell? ⟨gb358,1,none⟩ = some (.int .i64 t345) ∧ w'.cell? ⟨gb358,2,none⟩ = some (.slice Ao25 t346.length co25) ∧ w'.cell? ⟨gb358,3,none⟩ = some (.slice Ao26 t349.length co26) ∧ w'.cell? ⟨gb358,4,none⟩ = some (.int .i64 t352) ∧ w'.cell? ⟨gb358,5,none⟩ = some (.int .i64 t353) ∧ w'.cell? ⟨gb358,6,none⟩ = some (.int .i64 t354) ∧ w'.cell? ⟨gb358,7,none⟩ = some (.int .i64 t355) ∧ w'.cell? ⟨gb358,8,none⟩ = some (.int .i64 t356) ∧ w'.cell? ⟨gb358,9,none⟩ = some (.int .i64 t357) ∧ w'.cell? ⟨gb324,0,none⟩ = some (.int .i64 a0_0) ∧ w'.cell? ⟨gb324,1,none⟩ = some (.int .i64 a0_1) ∧ w'.cell? ⟨gb324,2,none⟩ = some (.slice A0_2 l0_2.length c0_2) ∧ w'.cell? ⟨gb324,3,none⟩ = some (.slice A0_3 l0_3.length c0_3) ∧ w'.cell? ⟨gb324,4,none⟩ = some (.int .i64 a0_4) ∧ w'.cell? ⟨gb324,5,none⟩ = some (.int .i64 a0_5) ∧ w'.cell? ⟨gb324,6,none⟩ = some (.int .i64 a0_6) ∧ w'.cell? ⟨gb324,7,none⟩ = some (.int .i64 a0_7) ∧ w'.cell? ⟨gb324,8,none⟩ = some (.int .i64 a0_8) ∧ w'.cell? ⟨gb324,9,none⟩ = some (.int .i64 a0_9)) (ds := []) (bm 5 0) (by kernel_rfl) rfl rfl ⟨(blk_cell BK358.out 0).trans rfl,(blk_cell BK358.out 1).trans rfl,(blk_cell BK358.out 2).trans rfl,(blk_cell BK358.out 3).trans rfl,(blk_cell BK358.out 4).trans rfl,(blk_cell BK358.out 5).trans rfl,(blk_cell BK358.out 6).trans rfl,(blk_cell BK358.out 7).trans rfl,(blk_cell BK358.out 8).trans rfl,(blk_cell BK358.out 9).trans rfl,(blk_cell BK324.out 0).trans rfl,(blk_cell BK324.out 1).trans rfl,(blk_cell BK324.out 2).trans rfl,(blk_cell BK324.out 3).trans rfl,(blk_cell BK324.out 4).trans rfl,(blk_cell BK324.out 5).trans rfl,(blk_cell BK324.out 6).trans rfl,(blk_cell BK324.out 7).trans rfl,(blk_cell BK324.out 8).trans rfl,(blk_cell BK324.out 9).trans rfl⟩ (fun hHeld => ?_)
      generalize wc.drew = w35 at HO_359002 HO_359003 BK324 BK358 HB hHeld ⊢
      refine take_ (i:=0) (N:=some 53) (v:=?_) (a':=?_) (bm 5 1) rfl rfl (by kernel_rfl) (fun _ _ _ h => h) (Or.inl ⟨by rfl,?_⟩) hHeld ?_ ?_
      rotate_left
      ·rintro w' ⟨s0,s1,s2,s3,s4,s5,s6,s7,s8,s9,s10,s11,s12,s13,s14,s15,s16,s17,s18,s19⟩
       go_simp
       with_reducible rfl
      rotate_left
      ·simp only [Act.put,setIfInBounds_toArray,set_cons_zero,set_cons_succ,i64_w,i32_w]
       rfl
      refine take_ (i:=1) (N:=some 54) (v:=?_) (a':=?_) (bm 5 3) rfl rfl (by kernel_rfl) (fun _ _ _ h => h) (Or.inl ⟨by rfl,?_⟩) hHeld ?_ ?_
      rotate_left
      ·rintro w' ⟨s0,s1,s2,s3,s4,s5,s6,s7,s8,s9,s10,s11,s12,s13,s14,s15,s16,s17,s18,s19⟩
       go_simp
       with_reducible rfl
      rotate_left
      ·simp only [Act.put,setIfInBounds_toArray,set_cons_zero,set_cons_succ,i64_w,i32_w]
       rfl
      refine one_ (i:=2) (N:=some 55) (bm 5 7) rfl rfl (by kernel_rfl) (by decide) (fun K hK => ?_)
      refine goes_ Tryd.func8 (by kernel_rfl) rfl #[.agg #[.int .i64 a0_0,.int .i64 a0_1,.slice A0_2 l0_2.length c0_2,.slice A0_3 l0_3.length c0_3,.int .i64 a0_4,.int .i64 a0_5,.int .i64 a0_6,.int .i64 a0_7,.int .i64 a0_8,.int .i64 a0_9]] (by rfl) rfl rfl mA ?_
      with_reducible refine (laws_toState.calls kj10 a0_0 a0_1 _ _ l0_2 _ _ l0_3 a0_4 a0_5 a0_6 a0_7 a0_8 a0_9 t363 t364 t365 t368 t371 t372 t373 t374 t375 t376 _ ?side1 ?side2 ?side3 ?side4 A32.out).mono ?_
      (case side1 => repeat (first | exact (Kd.C_below HR0_2.out HB.out) | (with_reducible refine Kd.C_alloc ?_ _) | (with_reducible refine Kd.C_drewN ?_ _) | (with_reducible refine Kd.C_drew ?_)))
      (case side2 => exact HC0_2.out)
      (case side3 => repeat (first | exact (Kd.C_below HR0_3.out HB.out) | (with_reducible refine Kd.C_alloc ?_ _) | (with_reducible refine Kd.C_drewN ?_ _) | (with_reducible refine Kd.C_drew ?_)))
      (case side4 => exact HC0_3.out)
      rintro e w36 ⟨v366,v369,rfl,ho0,ho1,hb⟩
      refine ⟨_,rfl,?_⟩
      have n0_ := Aside0.mk (Kd.R_elder' (rA HO_359002.out) (Kd.R_base ho0) hb)
      have n1_ := Aside0.mk (Kd.R_elder' (rA HO_359003.out) (Kd.R_base ho1) hb)
      have n2_ := Aside0.mk (Kd.R_lower (Kd.R_new' ho0 (Kd.R_lt (rA HO_359002.out))) (below_size bA))
      have n3_ := Aside0.mk (Kd.R_lower (Kd.R_new' ho1 (Kd.R_lt (rA HO_359003.out))) (below_size bA))
      have n4_ := Aside0.mk (blk_below (g:=gb324) (o:=.cells #[.int .i64 a0_0,.int .i64 a0_1,.slice A0_2 l0_2.length c0_2,.slice A0_3 l0_3.length c0_3,.int .i64 a0_4,.int .i64 a0_5,.int .i64 a0_6,.int .i64 a0_7,.int .i64 a0_8,.int .i64 a0_9] 26 (0,0)) (kA BK324.out) hb)
      have n5_ := Aside0.mk (blk_below (g:=gb358) (o:=.cells #[.int .i64 t344,.int .i64 t345,.slice Ao25 t346.length co25,.slice Ao26 t349.length co26,.int .i64 t352,.int .i64 t353,.int .i64 t354,.int .i64 t355,.int .i64 t356,.int .i64 t357] 32 (0,0)) (kA BK358.out) hb)
      have n6_ := Aside0.mk (below_step bA hb)
      clear HO_359002
      clear HO_359003
      clear BK324
      clear BK358
      clear HB
      have HO_359002 := n0_
      have HO_359003 := n1_
      have HO367 := n2_
      have HO370 := n3_
      have BK324 := n4_
      have BK358 := n5_
      have HB := n6_
      clear n0_ n1_ n2_ n3_ n4_ n5_ n6_
      (try clear hb)
      (try clear hb2)
      (try clear hk)
      (try clear hi)
      (try clear ho0)
      (try clear ho1)
      obtain ⟨Ao37,co37,eo37⟩ := Kd.R_slice HO367.out
      (first | subst eo37 | (injection eo37 with f1_ f2_ f3_; have f4_ := f1_.symm; have f5_ := f3_.symm; clear f1_ f2_ f3_; subst f4_; subst f5_))
      obtain ⟨Ao38,co38,eo38⟩ := Kd.R_slice HO370.out
      (first | subst eo38 | (injection eo38 with f1_ f2_ f3_; have f4_ := f1_.symm; have f5_ := f3_.symm; clear f1_ f2_ f3_; subst f4_; subst f5_))
      refine hK.out _ _ ⟨(blk_cell BK358.out 0).trans rfl,(blk_cell BK358.out 1).trans rfl,(blk_cell BK358.out 2).trans rfl,(blk_cell BK358.out 3).trans rfl,(blk_cell BK358.out 4).trans rfl,(blk_cell BK358.out 5).trans rfl,(blk_cell BK358.out 6).trans rfl,(blk_cell BK358.out 7).trans rfl,(blk_cell BK358.out 8).trans rfl,(blk_cell BK358.out 9).trans rfl,(blk_cell BK324.out 0).trans rfl,(blk_cell BK324.out 1).trans rfl,(blk_cell BK324.out 2).trans rfl,(blk_cell BK324.out 3).trans rfl,(blk_cell BK324.out 4).trans rfl,(blk_cell BK324.out 5).trans rfl,(blk_cell BK324.out 6).trans rfl,(blk_cell BK324.out 7).trans rfl,(blk_cell BK324.out 8).trans rfl,(blk_cell BK324.out 9).trans rfl⟩ (fun hHeld => ?_)
      clear hK K
      refine norm_ (a':=?_) ?_ ?_
      rotate_left
      ·show Act.put _ (some 55) _ = _
       simp only [Act.put,setIfInBounds_toArray,set_cons_zero,set_cons_succ,i64_w,i32_w]
       rfl
      refine one_ (i:=3) (N:=some 56) (bm 5 15) rfl rfl (by kernel_rfl) (by decide) (fun K hK => ?_)
      refine goes_ Tryd.func10 (by kernel_rfl) rfl #[.agg #[.int .i64 t344,.int .i64 t345,.slice Ao25 t346.length co25,.slice Ao26 t349.length co26,.int .i64 t352,.int .i64 t353,.int .i64 t354,.int .i64 t355,.int .i64 t356,.int .i64 t357],.agg #[.int .i64 t363,.int .i64 t364,.slice Ao37 t365.length co37,.slice Ao38 t368.length co38,.int .i64 t371,.int .i64 t372,.int .i64 t373,.int .i64 t374,.int .i64 t375,.int .i64 t376]] (by rfl) rfl rfl mA ?_
      with_reducible refine (laws_eqState.calls kj10 t344 t345 _ _ t346 _ _ t349 t352 t353 t354 t355 t356 t357 t363 t364 _ _ t365 _ _ t368 t371 t372 t373 t374 t375 t376 true _ ?side1 ?side2 ?side3 ?side4 ?side5 ?side6 ?side7 ?side8 A33.out).mono ?_
      (case side1 => repeat (first | exact (Kd.R_reads' HO_359002.out).2.2 | (with_reducible refine Kd.C_alloc ?_ _) | (with_reducible refine Kd.C_drewN ?_ _) | (with_reducible refine Kd.C_drew ?_)))
      (case side2 => exact (Kd.R_reads' HO_359002.out).2.1)
      (case side3 => repeat (first | exact (Kd.R_reads' HO_359003.out).2.2 | (with_reducible refine Kd.C_alloc ?_ _) | (with_reducible refine Kd.C_drewN ?_ _) | (with_reducible refine Kd.C_drew ?_)))
      (case side4 => exact (Kd.R_reads' HO_359003.out).2.1)
      (case side5 => repeat (first | exact (Kd.R_reads' HO367.out).2.2 | (with_reducible refine Kd.C_alloc ?_ _) | (with_reducible refine Kd.C_drewN ?_ _) | (with_reducible refine Kd.C_drew ?_)))
      (case side6 => exact (Kd.R_reads' HO367.out).2.1)
      (case side7 => repeat (first | exact (Kd.R_reads' HO370.out).2.2 | (with_reducible refine Kd.C_alloc ?_ _) | (with_reducible refine Kd.C_drewN ?_ _) | (with_reducible refine Kd.C_drew ?_)))
      (case side8 => exact (Kd.R_reads' HO370.out).2.1)
      rintro e w39 ⟨rfl,hb⟩
      refine ⟨_,rfl,?_⟩
      have n0_ := Aside0.mk (Kd.R_below (rA HO_359002.out) hb)
      have n1_ := Aside0.mk (Kd.R_below (rA HO_359003.out) hb)
      have n2_ := Aside0.mk (Kd.R_below (rA HO367.out) hb)
      have n3_ := Aside0.mk (Kd.R_below (rA HO370.out) hb)
      have n4_ := Aside0.mk (blk_below (g:=gb324) (o:=.cells #[.int .i64 a0_0,.int .i64 a0_1,.slice A0_2 l0_2.length c0_2,.slice A0_3 l0_3.length c0_3,.int .i64 a0_4,.int .i64 a0_5,.int .i64 a0_6,.int .i64 a0_7,.int .i64 a0_8,.int .i64 a0_9] 26 (0,0)) (kA BK324.out) hb)
      have n5_ := Aside0.mk (blk_below (g:=gb358) (o:=.cells #[.int .i64 t344,.int .i64 t345,.slice Ao25 t346.length co25,.slice Ao26 t349.length co26,.int .i64 t352,.int .i64 t353,.int .i64 t354,.int .i64 t355,.int .i64 t356,.int .i64 t357] 32 (0,0)) (kA BK358.out) hb)
      have n6_ := Aside0.mk (below_step bA hb)
      clear HO_359002
      clear HO_359003
      clear HO367
      clear HO370
      clear BK324
      clear BK358
      clear HB
      have HO_359002 := n0_
      have HO_359003 := n1_
      have HO367 := n2_
      have HO370 := n3_
      have BK324 := n4_
      have BK358 := n5_
      have HB := n6_
      clear n0_ n1_ n2_ n3_ n4_ n5_ n6_
      (try clear hb)
      (try clear hb2)
      (try clear hk)
      (try clear hi)
      refine hK.out _ _ ⟨(blk_cell BK358.out 0).trans rfl,(blk_cell BK358.out 1).trans rfl,(blk_cell BK358.out 2).trans rfl,(blk_cell BK358.out 3).trans rfl,(blk_cell BK358.out 4).trans rfl,(blk_cell BK358.out 5).trans rfl,(blk_cell BK358.out 6).trans rfl,(blk_cell BK358.out 7).trans rfl,(blk_cell BK358.out 8).trans rfl,(blk_cell BK358.out 9).trans rfl,(blk_cell BK324.out 0).trans rfl,(blk_cell BK324.out 1).trans rfl,(blk_cell BK324.out 2).trans rfl,(blk_cell BK324.out 3).trans rfl,(blk_cell BK324.out 4).trans rfl,(blk_cell BK324.out 5).trans rfl,(blk_cell BK324.out 6).trans rfl,(blk_cell BK324.out 7).trans rfl,(blk_cell BK324.out 8).trans rfl,(blk_cell BK324.out 9).trans rfl⟩ (fun hHeld => ?_)
      clear hK K
      refine norm_ (a':=?_) ?_ ?_
      rotate_left
      ·show Act.put _ (some 56) _ = _
       simp only [Act.put,setIfInBounds_toArray,set_cons_zero,set_cons_succ,i64_w,i32_w]
       rfl
      refine pure_ (i:=4) (N:=some 57) (v:=?_) (a':=?_) (bm 5 31) rfl rfl (by kernel_rfl) (fun _ _ _ h => h) (Or.inl ⟨by rfl,?_⟩) ?_ ?_
      rotate_left
      ·intro w'
       go_simp
       with_reducible rfl
      rotate_left
      ·simp only [Act.put,setIfInBounds_toArray,set_cons_zero,set_cons_succ,i64_w,i32_w]
       rfl
      refine done_ (by kernel_rfl) ?_
      try go_wp2
      go_ret
      exact ⟨by first | rfl | (simp [errW_none,errW_some] <;> rfl) | (simp [*,errW_none,errW_some] <;> rfl),bA⟩
     ·replace c34 := Bool.eq_false_iff.mpr c34
      subst c34
      rw [if_neg (show ¬ (false = true) by decide)] at H
      exact absurd H (by simp)

end Go.Proofs.YtfondhlknkhmmaaDoor.XFnExactDueWindow
