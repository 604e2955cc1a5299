-- Printed by this session's own program wip/tools/xprint.py, which widens the kit's print. Not trusted: Lean checks it.
import Derived.Test.YtfondhlknkhmmaaGreatDoorXFnExactOrphansOfx0
import Derived.Test.YtfondhlknkhmmaaGreatDoorXFnExactOrphansOfx1
import Derived.Test.YtfondhlknkhmmaaGreatDoorXFnExactOrphansOfx3
namespace Go.Proofs.YtfondhlknkhmmaaGreatDoor.XFnExactOrphansOf
open List (setIfInBounds_toArray set_cons_zero set_cons_succ)
open Go.RowKit Go.Proofs.YtfondhlknkhmmaaGreatDoorW.PrintWords Go.Proofs.YtfondhlknkhmmaaGreatDoorW.PrintLast Go.Proofs.YtfondhlknkhmmaaGreatDoorW.PrintMore
attribute [local go_sem] max2_int min2_int max_two min_two max_three min_three max_four min_four   -- for this text's walks alone
set_option linter.unusedVariables false
set_option linter.unusedSimpArgs false

/-! ### spec_StateOK: function 17 -/
mutual
def spec_StateOK.j0 : Nat → Bool → Int → Int → List (S64) → List (S71) → Int → Int → Int → Int → Int → Int → Option (Bool)
 | 0,_,_,_,_,_,_,_,_,_,_,_ => none
 | k + 1,x32,x167000,x167001,x167002,x167003,x167004,x167005,x167006,x167007,x167008,x167009 => if x32 = true then (some false) else (spec_StateOK.l0 k (([] : List ByteArray)) 0 x167000 x167001 x167002 x167003 x167004 x167005 x167006 x167007 x167008 x167009 x167004 x167005 x167006)
def spec_StateOK.l0 : Nat → List ByteArray → Int → Int → Int → List (S64) → List (S71) → Int → Int → Int → Int → Int → Int → Int → Int → Int → Option (Bool)
 | 0,_,_,_,_,_,_,_,_,_,_,_,_,_,_,_ => none
 | k + 1,x4,x5,x167000,x167001,x167002,x167003,x167004,x167005,x167006,x167007,x167008,x167009,x170000,x170001,x170002 => if x5 < (x167002.length : Int) then (if 0 ≤ x5 then ((spec_l06Tiered.f k 0 0 ((rd_T64 x167002 x5).f0) ((rd_T64 x167002 x5).f1) ((rd_T64 x167002 x5).f2) ((rd_T64 x167002 x5).f3) 0).bind fun t175 => (if t175 = true then (if 0 ≤ ((rd_T64 x167002 x5).f0) then (if ((rd_T64 x167002 x5).f0) < 3 then (if ((rd_T64 x167002 x5).f1) = (at3 ((rd_T64 x167002 x5).f0) x170000 x170001 x170002) then ((spec_l06In.f k x4 ((rd_T64 x167002 x5).f3)).bind fun t176 => (if t176 = true then (some false) else (if x4.length < 8796093022208 then (spec_StateOK.l0 k (x4 ++ [(rd_T64 x167002 x5).f3]) (wrap64 (x5 + 1)) x167000 x167001 x167002 x167003 x167004 x167005 x167006 x167007 x167008 x167009 (if ((rd_T64 x167002 x5).f0) = 0 then (rd_T64 x167002 x5).f2 else x170000) (if ((rd_T64 x167002 x5).f0) = 1 then (rd_T64 x167002 x5).f2 else x170001) (if ((rd_T64 x167002 x5).f0) = 2 then (rd_T64 x167002 x5).f2 else x170002)) else (none)))) else (some false)) else (none)) else (none)) else (some false))) else (none)) else (spec_StateOK.l1 k x4 0 x167000 x167001 x167002 x167003 x167004 x167005 x167006 x167007 x167008 x167009 x170000 x170001 x170002)
def spec_StateOK.l1 : Nat → List ByteArray → Int → Int → Int → List (S64) → List (S71) → Int → Int → Int → Int → Int → Int → Int → Int → Int → Option (Bool)
 | 0,_,_,_,_,_,_,_,_,_,_,_,_,_,_,_ => none
 | k + 1,x4,x7,x167000,x167001,x167002,x167003,x167004,x167005,x167006,x167007,x167008,x167009,x170000,x170001,x170002 => if x7 < (x167003.length : Int) then (if 0 ≤ x7 then ((spec_l03ToKey.f k ((rd_T71 x167003 x7).f1)).bind fun bt181 => (if bt181.2.2.2 = true then ((spec_l01In.f ((rd_T71 x167003 x7).f0) 1 x167000).bind fun t186 => (if t186 = true then ((spec_l06In.f k x4 ((rd_T71 x167003 x7).f1)).bind fun t188 => (if t188 = true then (some false) else (if x4.length < 8796093022208 then (spec_StateOK.l1 k (x4 ++ [(rd_T71 x167003 x7).f1]) (wrap64 (x7 + 1)) x167000 x167001 x167002 x167003 x167004 x167005 x167006 x167007 x167008 x167009 x170000 x170001 x170002) else (none)))) else (some false))) else (some false))) else (none)) else (spec_StateOK.l2 k 0 x167000 x167001 x167002 x167003 x167004 x167005 x167006 x167007 x167008 x167009 x170000 x170001 x170002)
def spec_StateOK.l2 : Nat → Int → Int → Int → List (S64) → List (S71) → Int → Int → Int → Int → Int → Int → Int → Int → Int → Option (Bool)
 | 0,_,_,_,_,_,_,_,_,_,_,_,_,_,_ => none
 | k + 1,x12,x167000,x167001,x167002,x167003,x167004,x167005,x167006,x167007,x167008,x167009,x170000,x170001,x170002 => if x12 < 3 then (if 0 ≤ x12 then ((spec_l01In.f (at3 x12 x167004 x167005 x167006) 0 100000).bind fun t193 => (if t193 = true then (if (at3 x12 x167007 x167008 x167009) = (at3 x12 x170000 x170001 x170002) then (spec_StateOK.l2 k (wrap64 (x12 + 1)) x167000 x167001 x167002 x167003 x167004 x167005 x167006 x167007 x167008 x167009 x170000 x170001 x170002) else (some false)) else (some false))) else (none)) else (some true)
end
def spec_StateOK.f (k : Nat) (a0_0 : Int) (a0_1 : Int) (l0_2 : List (S64)) (l0_3 : List (S71)) (a0_4 : Int) (a0_5 : Int) (a0_6 : Int) (a0_7 : Int) (a0_8 : Int) (a0_9 : Int) : Option (Bool) := (spec_l01In.f a0_0 0 999999).bind fun t167 => (if t167 = true then ((spec_l01In.f a0_1 0 999999).bind fun t168 => (if t168 = true then (spec_StateOK.j0 k (decide ((wrap64 ((l0_2.length : Int) + (l0_3.length : Int))) > 4096)) a0_0 a0_1 l0_2 l0_3 a0_4 a0_5 a0_6 a0_7 a0_8 a0_9) else (spec_StateOK.j0 k true a0_0 a0_1 l0_2 l0_3 a0_4 a0_5 a0_6 a0_7 a0_8 a0_9))) else (spec_StateOK.j0 k true a0_0 a0_1 l0_2 l0_3 a0_4 a0_5 a0_6 a0_7 a0_8 a0_9))
theorem spec_StateOK.mono_l : ∀ k,(∀ y0 y1 y2 y3 y4 y5 y6 y7 y8 y9 y10,LeO (spec_StateOK.j0 k y0 y1 y2 y3 y4 y5 y6 y7 y8 y9 y10) (spec_StateOK.j0 (k + 1) y0 y1 y2 y3 y4 y5 y6 y7 y8 y9 y10)) ∧ (∀ y0 y1 y2 y3 y4 y5 y6 y7 y8 y9 y10 y11 y12 y13 y14,LeO (spec_StateOK.l0 k y0 y1 y2 y3 y4 y5 y6 y7 y8 y9 y10 y11 y12 y13 y14) (spec_StateOK.l0 (k + 1) y0 y1 y2 y3 y4 y5 y6 y7 y8 y9 y10 y11 y12 y13 y14)) ∧ (∀ y0 y1 y2 y3 y4 y5 y6 y7 y8 y9 y10 y11 y12 y13 y14,LeO (spec_StateOK.l1 k y0 y1 y2 y3 y4 y5 y6 y7 y8 y9 y10 y11 y12 y13 y14) (spec_StateOK.l1 (k + 1) y0 y1 y2 y3 y4 y5 y6 y7 y8 y9 y10 y11 y12 y13 y14)) ∧ (∀ y0 y1 y2 y3 y4 y5 y6 y7 y8 y9 y10 y11 y12 y13,LeO (spec_StateOK.l2 k y0 y1 y2 y3 y4 y5 y6 y7 y8 y9 y10 y11 y12 y13) (spec_StateOK.l2 (k + 1) y0 y1 y2 y3 y4 y5 y6 y7 y8 y9 y10 y11 y12 y13))
 | 0 => ⟨fun _ _ _ _ _ _ _ _ _ _ _ r h => by simp [spec_StateOK.j0] at h,fun _ _ _ _ _ _ _ _ _ _ _ _ _ _ _ r h => by simp [spec_StateOK.l0] at h,fun _ _ _ _ _ _ _ _ _ _ _ _ _ _ _ r h => by simp [spec_StateOK.l1] at h,fun _ _ _ _ _ _ _ _ _ _ _ _ _ _ r h => by simp [spec_StateOK.l2] at h⟩
 | k + 1 => by
  obtain ⟨ih0,ih1,ih2,ih3⟩ := spec_StateOK.mono_l k
  refine ⟨?_,?_,?_,?_⟩
  all_goals
   intros
   first | unfold spec_StateOK.j0 | unfold spec_StateOK.l0 | unfold spec_StateOK.l1 | unfold spec_StateOK.l2
   repeat' first
   | (with_reducible first | exact ih0 .. | exact ih1 .. | exact ih2 .. | exact ih3 .. | exact spec_l03ToKey.mono .. | exact spec_l06In.mono .. | exact spec_l06Tiered.mono .. | exact LeO.refl _ | exact LeO.none _ | refine LeO.ite ?_ ?_ | refine LeO.bind ?_ (fun _ => ?_))
   | exact LeO.none _ | refine LeO.ite ?_ ?_ | refine LeO.bind ?_ (fun _ => ?_)
theorem spec_StateOK.mono : ∀ a0 a1 a2 a3 a4 a5 a6 a7 a8 a9 k,LeO (spec_StateOK.f k a0 a1 a2 a3 a4 a5 a6 a7 a8 a9) (spec_StateOK.f (k + 1) a0 a1 a2 a3 a4 a5 a6 a7 a8 a9) := by
 intro a0 a1 a2 a3 a4 a5 a6 a7 a8 a9 k
 obtain ⟨ih0,ih1,ih2,ih3⟩ := spec_StateOK.mono_l k
 unfold spec_StateOK.f
 repeat' first
 | (with_reducible first | exact ih0 .. | exact ih1 .. | exact ih2 .. | exact ih3 .. | exact spec_l03ToKey.mono .. | exact spec_l06In.mono .. | exact spec_l06Tiered.mono .. | exact LeO.refl _ | exact LeO.none _ | refine LeO.ite ?_ ?_ | refine LeO.bind ?_ (fun _ => ?_))
 | exact LeO.none _ | refine LeO.ite ?_ ?_ | refine LeO.bind ?_ (fun _ => ?_)
def spec_StateOK.T9 : Bool × List (List Nat × List Nat) := (true,[([],[]),([0],[0]),([],[]),([2],[2]),([],[]),([4],[4]),([],[]),([6],[6]),([1,3,5,7],[1,3,5,7]),([8],[8]),([9],[9]),([10,9],[10]),([11],[11]),([12,11],[11,12]),([11],[11]),([14,11],[11,14]),([15,11],[11,15]),([16,11],[11,16]),([13,17,11],[11,13,17]),([11,18],[11,18]),([19,11],[19]),([20],[20]),([20],[20]),([22,20],[20,22]),([21,23,20,20],[20,21,23]),([20,24],[20,24])])
def spec_StateOK.B9 : List Nat := [0,1,0,4,0,16,0,64,255,511,1023,2047,4095,8191,4095,20479,53247,118783,262143,524287,1048575,2097151,2097151,6291455,16777215,33554431]
theorem spec_StateOK.tab9 : rtab .any (opsOf Tryz.f17 9) = spec_StateOK.T9 := by kernel_rfl
theorem spec_StateOK.bits9 : waitsOk spec_StateOK.T9.2 spec_StateOK.B9 = true := by kernel_rfl
def spec_StateOK.T17 : Bool × List (List Nat × List Nat) := (true,[([],[]),([0],[0]),([1],[1]),([2],[2]),([3,2],[2,3]),([2],[2]),([4,5,2],[2,4,5]),([6,2],[2,6]),([7,2],[2,7]),([2],[2]),([9,2],[2,9]),([8,10,2,2],[2,8,10]),([11,2],[2,11]),([2,12],[2,12]),([13,11],[13]),([14],[14]),([14],[14]),([16,14],[14,16]),([14],[14]),([17,18,14],[14,17,18]),([19,14],[14,19]),([20,14],[14,20]),([15,21,14,14],[14,15,21]),([14,22],[14,22])])
def spec_StateOK.B17 : List Nat := [0,1,3,7,15,7,63,127,255,7,519,2047,4095,8191,16383,32767,32767,98303,32767,491519,1015807,2064383,4194303,8388607]
theorem spec_StateOK.tab17 : rtab .any (opsOf Tryz.f17 17) = spec_StateOK.T17 := by kernel_rfl
theorem spec_StateOK.bits17 : waitsOk spec_StateOK.T17.2 spec_StateOK.B17 = true := by kernel_rfl
def spec_StateOK.T23 : Bool × List (List Nat × List Nat) := (true,[([],[]),([],[]),([1,0],[0,1]),([2],[2]),([3],[3]),([4],[4]),([5,4],[5]),([6],[6]),([6],[6]),([8,7,6],[6,7,8]),([9,6],[6,9]),([6],[6]),([11,6],[6,11]),([12,6],[6,12]),([10,13,6],[6,10,13]),([6,14],[6,14])])
def spec_StateOK.B23 : List Nat := [0,0,3,7,15,31,63,127,127,511,1023,127,2175,6271,16383,32767]
theorem spec_StateOK.tab23 : rtab .any (opsOf Tryz.f17 23) = spec_StateOK.T23 := by kernel_rfl
theorem spec_StateOK.bits23 : waitsOk spec_StateOK.T23.2 spec_StateOK.B23 = true := by kernel_rfl
set_option maxHeartbeats 8000000 in
set_option maxRecDepth 100000 in
theorem spec_StateOK.calls (k : Nat) (a0_0 : Int) (a0_1 : Int) (A0_2 : Option Addr) (c0_2 : Nat) (l0_2 : List (S64)) (A0_3 : Option Addr) (c0_3 : Nat) (l0_3 : List (S71)) (a0_4 : Int) (a0_5 : Int) (a0_6 : Int) (a0_7 : Int) (a0_8 : Int) (a0_9 : Int) (r : Bool) (w : World) (hr0_2 : Kd.C k64 w A0_2 l0_2.length l0_2) (hc0_2 : l0_2.length ≤ c0_2) (hr0_3 : Kd.C k71 w A0_3 l0_3.length l0_3) (hc0_3 : l0_3.length ≤ c0_3) (h : spec_StateOK.f k a0_0 a0_1 l0_2 l0_3 a0_4 a0_5 a0_6 a0_7 a0_8 a0_9 = some r) :
  Calls Tryz.prog 17 #[.agg #[.int .i64 a0_0,.int .i64 a0_1,.slice A0_2 l0_2.length c0_2,.slice A0_3 l0_3.length c0_3,.int .i64 a0_4,.int .i64 a0_5,.int .i64 a0_6,.int .i64 a0_7,.int .i64 a0_8,.int .i64 a0_9]] w fun e w' => e = .returned (.bool r) ∧ Below w.heap.size w w' := by
 have hu35 := Tryz.underlying35
 have hu24 := Tryz.underlying24
 have hu64 := Tryz.underlying64
 have hu67 := Tryz.underlying67
 have HR0_2 := Aside0.mk hr0_2
 have HC0_2 := Aside0.mk hc0_2
 clear hr0_2 hc0_2
 have HR0_3 := Aside0.mk hr0_3
 have HC0_3 := Aside0.mk hc0_3
 clear hr0_3 hc0_3
 have HB := Aside0.mk (Below.refl w.heap.size w)
 have H : ((spec_l01In.f a0_0 0 999999).bind fun t167 => (if t167 = true then ((spec_l01In.f a0_1 0 999999).bind fun t168 => (if t168 = true then (spec_StateOK.j0 k (decide ((wrap64 ((l0_2.length : Int) + (l0_3.length : Int))) > 4096)) a0_0 a0_1 l0_2 l0_3 a0_4 a0_5 a0_6 a0_7 a0_8 a0_9) else (spec_StateOK.j0 k true a0_0 a0_1 l0_2 l0_3 a0_4 a0_5 a0_6 a0_7 a0_8 a0_9))) else (spec_StateOK.j0 k true a0_0 a0_1 l0_2 l0_3 a0_4 a0_5 a0_6 a0_7 a0_8 a0_9))) = some r := h
 clear h
 have HC2 := Aside0.mk H
 clear H
 go_enter Tryz.func17,Tryz.ntmps17
 go_upto_region 1 with (first | ((with_reducible refine gate_dst (N:=1) rfl ?_); (try (refine gate_guard (by rfl) ?_; dsimp only)); refine box_event ?hg (N:=1) ?hd (cs := #[.int .i64 a0_0,.int .i64 a0_1,.slice A0_2 l0_2.length c0_2,.slice A0_3 l0_3.length c0_3,.int .i64 a0_4,.int .i64 a0_5,.int .i64 a0_6,.int .i64 a0_7,.int .i64 a0_8,.int .i64 a0_9]) (t:=35) ?hr ?_; (case hd => rfl); (case hg => rfl); (case hr => first | (go_simp; done) | (go_simp; rfl)); intro gb166 hg w3 hbox hb; have n0_ := Aside0.mk (below_step bA hb); have n1_ := Aside0.mk (hbox); have n2_ := Aside0.mk ((gw hg : w.heap.size ≤ gb166)); have n3_ := Aside0.mk ((gw hg : w.heap.size ≤ gb166)); clear HB; have HB := n0_; have BK166 := n1_; have GW166 := n2_; have GE166 := n3_; clear n0_ n1_ n2_ n3_; clear hb hbox hg))
 (try simp only [Act.put,setIfInBounds_toArray,set_cons_zero,set_cons_succ])
 go_cut [32] (fun v32 wc => ∃ (kq : Nat) (x32_1 : Bool),v32 = .bool x32_1 ∧ Aside0 (spec_StateOK.j0 kq x32_1 a0_0 a0_1 l0_2 l0_3 a0_4 a0_5 a0_6 a0_7 a0_8 a0_9 = some r) ∧ Aside0 (kq ≤ k) ∧ Aside0 (wc.heap[gb166]? = some (.cells #[.int .i64 a0_0,.int .i64 a0_1,(.slice A0_2 l0_2.length c0_2),(.slice A0_3 l0_3.length c0_3),.int .i64 a0_4,.int .i64 a0_5,.int .i64 a0_6,.int .i64 a0_7,.int .i64 a0_8,.int .i64 a0_9] 35 (0,0))) ∧ Aside0 (Below w.heap.size w wc))
 case first =>
  have H := HC2.out
  clear HC2
  replace H := Option.bind_eq_some_iff.mp H
  obtain ⟨t167,A40,H⟩ := H
  try dsimp only at H
  have A4 := Aside0.mk A40
  clear A40
  by_cases c5 : t167 = true
  ·subst c5
   rw [if_pos rfl] at H
   replace H := Option.bind_eq_some_iff.mp H
   obtain ⟨t168,A60,H⟩ := H
   try dsimp only at H
   have A6 := Aside0.mk A60
   clear A60
   by_cases c7 : t168 = true
   ·subst c7
    rw [if_pos rfl] at H
    have H' := Aside0.mk H
    clear H
    obtain ⟨hcz8_0,hcz8_1,hcz8_2,hcz8_3,hcz8_4,hcz8_5,hcz8_6,hcz8_7,hcz8_8,hcz8_9⟩ := cl10 BK166.out
    obtain ⟨hfz8_0,hfz8_1,hfz8_2,hfz8_3,hfz8_4,hfz8_5,hfz8_6,hfz8_7,hfz8_8,hfz8_9⟩ := fz10 BK166.out
    go_wp2_with (first | ((with_reducible refine gate_callee (f:=34) rfl ?_); refine goesL_ (some 15) rfl rfl Tryz.func34 (by kernel_rfl) rfl #[.int .i64 a0_0,.int .i64 0,.int .i64 999999] rfl mA ?_; (with_reducible refine (spec_l01In.calls a0_0 0 999999 true _ A4.out).mono ?_); rintro e w' ⟨rfl,⟨nd,rfl⟩⟩; refine ⟨_,rfl,?_⟩) | (go_at_call 34; (with_reducible refine (spec_l01In.calls a0_1 0 999999 true _ A6.out).mono ?_); rintro e w' ⟨rfl,⟨nd,rfl⟩⟩))
    go_meet
    case rel => exact ⟨_,(decide ((wrap64 ((l0_2.length : Int) + (l0_3.length : Int))) > 4096)),(by first | rfl | (simp; done) | (simp [*]; done)),H',⟨by first | omega | exact Nat.le_refl _⟩,⟨kA BK166.out⟩,⟨bA⟩⟩
   ·replace c7 := Bool.eq_false_iff.mpr c7
    subst c7
    rw [if_neg (show ¬ (false = true) by decide)] at H
    have H' := Aside0.mk H
    clear H
    obtain ⟨hcz9_0,hcz9_1,hcz9_2,hcz9_3,hcz9_4,hcz9_5,hcz9_6,hcz9_7,hcz9_8,hcz9_9⟩ := cl10 BK166.out
    obtain ⟨hfz9_0,hfz9_1,hfz9_2,hfz9_3,hfz9_4,hfz9_5,hfz9_6,hfz9_7,hfz9_8,hfz9_9⟩ := fz10 BK166.out
    go_wp2_with (first | ((with_reducible refine gate_callee (f:=34) rfl ?_); refine goesL_ (some 15) rfl rfl Tryz.func34 (by kernel_rfl) rfl #[.int .i64 a0_0,.int .i64 0,.int .i64 999999] rfl mA ?_; (with_reducible refine (spec_l01In.calls a0_0 0 999999 true _ A4.out).mono ?_); rintro e w' ⟨rfl,⟨nd,rfl⟩⟩; refine ⟨_,rfl,?_⟩) | (go_at_call 34; (with_reducible refine (spec_l01In.calls a0_1 0 999999 false _ A6.out).mono ?_); rintro e w' ⟨rfl,⟨nd,rfl⟩⟩))
    go_meet
    case rel => exact ⟨_,(true),(by first | rfl | (simp; done) | (simp [*]; done)),H',⟨by first | omega | exact Nat.le_refl _⟩,⟨kA BK166.out⟩,⟨bA⟩⟩
  ·replace c5 := Bool.eq_false_iff.mpr c5
   subst c5
   rw [if_neg (show ¬ (false = true) by decide)] at H
   have H' := Aside0.mk H
   clear H
   obtain ⟨hcz10_0,hcz10_1,hcz10_2,hcz10_3,hcz10_4,hcz10_5,hcz10_6,hcz10_7,hcz10_8,hcz10_9⟩ := cl10 BK166.out
   obtain ⟨hfz10_0,hfz10_1,hfz10_2,hfz10_3,hfz10_4,hfz10_5,hfz10_6,hfz10_7,hfz10_8,hfz10_9⟩ := fz10 BK166.out
   go_wp2_with (first | ((with_reducible refine gate_callee (f:=34) rfl ?_); refine goesL_ (some 15) rfl rfl Tryz.func34 (by kernel_rfl) rfl #[.int .i64 a0_0,.int .i64 0,.int .i64 999999] rfl mA ?_; (with_reducible refine (spec_l01In.calls a0_0 0 999999 false _ A4.out).mono ?_); rintro e w' ⟨rfl,⟨nd,rfl⟩⟩; refine ⟨_,rfl,?_⟩))
   go_meet
   case rel => exact ⟨_,(true),(by first | rfl | (simp; done) | (simp [*]; done)),H',⟨by first | omega | exact Nat.le_refl _⟩,⟨kA BK166.out⟩,⟨bA⟩⟩
 case rest =>
  clear HC2
  try clear c1
  try clear p2
  try clear c3
  try clear c5
  try clear p6
  try clear c7
  try clear hcz10_0 hcz10_1 hcz10_2 hcz10_3 hcz10_4 hcz10_5 hcz10_6 hcz10_7 hcz10_8 hcz10_9
  try clear hcz8_0 hcz8_1 hcz8_2 hcz8_3 hcz8_4 hcz8_5 hcz8_6 hcz8_7 hcz8_8 hcz8_9
  try clear hcz9_0 hcz9_1 hcz9_2 hcz9_3 hcz9_4 hcz9_5 hcz9_6 hcz9_7 hcz9_8 hcz9_9
  try clear hfz10_0 hfz10_1 hfz10_2 hfz10_3 hfz10_4 hfz10_5 hfz10_6 hfz10_7 hfz10_8 hfz10_9
  try clear hfz8_0 hfz8_1 hfz8_2 hfz8_3 hfz8_4 hfz8_5 hfz8_6 hfz8_7 hfz8_8 hfz8_9
  try clear hfz9_0 hfz9_1 hfz9_2 hfz9_3 hfz9_4 hfz9_5 hfz9_6 hfz9_7 hfz9_8 hfz9_9
  obtain ⟨kq,x32_1,rfl,HA,HJ1,BK166,HB⟩ := hcut
  cases kq with
  | zero => exact absurd HA.out (by simp [spec_StateOK.j0])
  | succ kj1 =>
   have H := HA.out
   clear HA
   simp only [spec_StateOK.j0] at H
   by_cases c11 : x32_1 = true
   ·subst c11
    rw [if_pos rfl] at H
    obtain rfl := Option.some.inj H
    go_wp2
    go_ret
    exact ⟨by first | rfl | (simp only [i64_w,i32_w] <;> rfl) | (simp [errW_none,errW_some] <;> rfl) | (simp [*,errW_none,errW_some] <;> rfl),bA⟩
   ·replace c11 := Bool.eq_false_iff.mpr c11
    subst c11
    rw [if_neg (show ¬ (false = true) by decide)] at H
    obtain ⟨y170,hy170⟩ : ∃ y_ : List ByteArray,y_ = (([] : List ByteArray)) := ⟨_,rfl⟩
    replace H : (spec_StateOK.l0 kj1 y170 0 a0_0 a0_1 l0_2 l0_3 a0_4 a0_5 a0_6 a0_7 a0_8 a0_9 a0_4 a0_5 a0_6) = some r := by first | (rw [hy170]; with_reducible exact H) | (have H2_ := (Option.bind_some _ _).symm.trans H; rw [hy170]; with_reducible exact H2_) | (have H2_ := (Option.bind_some _ _).symm.trans H; with_reducible exact H2_) | with_reducible exact H | (rw [hy170]; exact H) | exact H
    have Ny170 := Aside0.mk hy170
    clear hy170
    have H' := Aside0.mk H
    clear H
    obtain ⟨hcz12_0,hcz12_1,hcz12_2,hcz12_3,hcz12_4,hcz12_5,hcz12_6,hcz12_7,hcz12_8,hcz12_9⟩ := cl10 BK166.out
    obtain ⟨hfz12_0,hfz12_1,hfz12_2,hfz12_3,hfz12_4,hfz12_5,hfz12_6,hfz12_7,hfz12_8,hfz12_9⟩ := fz10 BK166.out
    go_wp2_with (first | ((with_reducible refine gate_dst (N:=3) rfl ?_); (try (refine gate_guard (by rfl) ?_; dsimp only)); refine box_event ?hg (N:=3) ?hd (cs := #[.int .i64 0,.int .i64 0,.int .i64 0]) (t:=24) ?hr ?_; (case hd => rfl); (case hg => rfl); (case hr => first | (go_simp; done) | (go_simp; rfl)); intro gb169 hg w13 hbox hb; have n0_ := Aside0.mk (bb BK166.out hb); have n1_ := Aside0.mk (below_step bA hb); have n2_ := Aside0.mk (hbox); have n3_ := Aside0.mk ((gw hg : w.heap.size ≤ gb169)); have n4_ := Aside0.mk ((gw hg : w.heap.size ≤ gb169)); have n5_ := Aside0.mk ((nl hg BK166.out)); have n6_ := Aside0.mk ((ng hg BK166.out)); clear BK166 HB; have BK166 := n0_; have HB := n1_; have BK169 := n2_; have GW169 := n3_; have GE169 := n4_; have NB166_169 := n5_; have NB169_166 := n6_; clear n0_ n1_ n2_ n3_ n4_ n5_ n6_; clear hb hbox hg; have hnb14 := NB169_166.out; have hnc14 := NB166_169.out; obtain ⟨hcz15_0,hcz15_1,hcz15_2⟩ := cl3 BK169.out; obtain ⟨hfz15_0,hfz15_1,hfz15_2⟩ := fz3 BK169.out) | ((with_reducible refine gate_dst (N:=35) rfl ?_); (try (refine gate_guard (by rfl) ?_; dsimp only)); refine Kd.R_lit Kd.string _ 9 ?hg (N:=35) ?hd (xs := ([] : List ByteArray)) (inner := []) (ok := fun _ => True) (okp := fun _ => True) ?hr ?hp (fun _ hk => hk) trivial (Below.refl _ _) (Nat.le_refl _) (by simp) ?_; (case hd => rfl); (case hg => rfl); (case hr => first | (go_simp; done) | (go_simp; rfl)); (case hp => exact (Reps.none _ _)); intro v171 w16 ho17 hb hg_ hnew_; clear hg_ hnew_; (first | rw [← Ny170.out] at ho17 | (simp only [Int.reduceToNat] at ho17; rw [← Ny170.out] at ho17)); have n0_ := Aside0.mk (Kd.R_lower ho17 (below_size bA)); have n1_ := Aside0.mk (bc BK166.out hb); have n2_ := Aside0.mk (blk_below (g:=gb169) (o:=.cells #[.int .i64 a0_4,.int .i64 a0_5,.int .i64 a0_6] 24 (0,0)) (by (with_reducible repeat (first | refine blk_drewN ?_ _ | refine blk_drew ?_ | refine blk_alloc ?_ _)); apply blkp3; (with_reducible repeat (first | refine blk_drewN ?_ _ | refine blk_drew ?_ | refine blk_alloc ?_ _)); exact BK169.out) hb); have n3_ := Aside0.mk (below_step bA hb); clear BK166 BK169 HB; have HO172 := n0_; have BK166 := n1_; have BK169 := n2_; have HB := n3_; clear n0_ n1_ n2_ n3_; clear hb ho17))
    go_loopg [4,5] kj1 (fun kq v4 v5 w' => ∃ (x4_2 : List ByteArray) (x5_2 : Int) (x170000_2 : Int) (x170001_2 : Int) (x170002_2 : Int),v5 = .int .i64 x5_2 ∧ Aside0 (spec_StateOK.l0 kq x4_2 x5_2 a0_0 a0_1 l0_2 l0_3 a0_4 a0_5 a0_6 a0_7 a0_8 a0_9 x170000_2 x170001_2 x170002_2 = some r) ∧ Aside0 (kq ≤ kj1) ∧ Aside0 (Kd.R Kd.string 9 w' w.heap.size (fun _ => True) v4 x4_2) ∧ Aside0 (w'.heap[gb166]? = some (.cells #[.int .i64 a0_0,.int .i64 a0_1,(.slice A0_2 l0_2.length c0_2),(.slice A0_3 l0_3.length c0_3),.int .i64 a0_4,.int .i64 a0_5,.int .i64 a0_6,.int .i64 a0_7,.int .i64 a0_8,.int .i64 a0_9] 35 (0,0))) ∧ Aside0 (w'.heap[gb169]? = some (.cells #[.int .i64 x170000_2,.int .i64 x170001_2,.int .i64 x170002_2] 24 (0,0))) ∧ Aside0 (Below w.heap.size w w'))
    case atStart => exact ⟨(y170),(0),(a0_4),(a0_5),(a0_6),(by first | rfl | (simp; done) | (simp [*]; done)),H',⟨Nat.le_refl _⟩,⟨rA HO172.out⟩,⟨kA BK166.out⟩,⟨kA BK169.out⟩,⟨bA⟩⟩
    case round =>
     clear H'
     try clear c1
     try clear p2
     try clear c3
     try clear c5
     try clear p6
     try clear c7
     try clear c11
     try clear c14
     try clear c17
     try clear hcz10_0 hcz10_1 hcz10_2 hcz10_3 hcz10_4 hcz10_5 hcz10_6 hcz10_7 hcz10_8 hcz10_9
     try clear hcz12_0 hcz12_1 hcz12_2 hcz12_3 hcz12_4 hcz12_5 hcz12_6 hcz12_7 hcz12_8 hcz12_9
     try clear hcz15_0 hcz15_1 hcz15_2
     try clear hcz8_0 hcz8_1 hcz8_2 hcz8_3 hcz8_4 hcz8_5 hcz8_6 hcz8_7 hcz8_8 hcz8_9
     try clear hcz9_0 hcz9_1 hcz9_2 hcz9_3 hcz9_4 hcz9_5 hcz9_6 hcz9_7 hcz9_8 hcz9_9
     try clear hfz10_0 hfz10_1 hfz10_2 hfz10_3 hfz10_4 hfz10_5 hfz10_6 hfz10_7 hfz10_8 hfz10_9
     try clear hfz12_0 hfz12_1 hfz12_2 hfz12_3 hfz12_4 hfz12_5 hfz12_6 hfz12_7 hfz12_8 hfz12_9
     try clear hfz15_0 hfz15_1 hfz15_2
     try clear hfz8_0 hfz8_1 hfz8_2 hfz8_3 hfz8_4 hfz8_5 hfz8_6 hfz8_7 hfz8_8 hfz8_9
     try clear hfz9_0 hfz9_1 hfz9_2 hfz9_3 hfz9_4 hfz9_5 hfz9_6 hfz9_7 hfz9_8 hfz9_9
     try clear p2
     try clear p6
     obtain ⟨x4_2,x5_2,x170000_2,x170001_2,x170002_2,rfl,HA,HK2,HO_4,BK166,BK169,HB⟩ := hrel
     cases gk with
     | zero => exact absurd HA.out (by simp [spec_StateOK.l0])
     | succ k2 =>
      have H := HA.out
      clear HA
      simp only [spec_StateOK.l0] at H
      by_cases c18 : x5_2 < (l0_2.length : Int)
      ·rw [if_pos c18] at H
       have c18b0 : decide (x5_2 < (l0_2.length : Int)) = true := decide_eq_true c18
       clear c18
       by_cases c19 : 0 ≤ x5_2
       ·rw [if_pos c19] at H
        have c19b0 : decide (0 ≤ x5_2) = true := decide_eq_true c19
        clear c19
        replace H := Option.bind_eq_some_iff.mp H
        obtain ⟨t175,A200,H⟩ := H
        try dsimp only at H
        have A20 := Aside0.mk A200
        clear A200
        by_cases c21 : t175 = true
        ·subst c21
         rw [if_pos rfl] at H
         by_cases c22 : 0 ≤ ((rd_T64 l0_2 x5_2).f0)
         ·rw [if_pos c22] at H
          have c22b0 : decide (0 ≤ ((rd_T64 l0_2 x5_2).f0)) = true := decide_eq_true c22
          clear c22
          by_cases c23 : ((rd_T64 l0_2 x5_2).f0) < 3
          ·rw [if_pos c23] at H
           have c23b0 : decide (((rd_T64 l0_2 x5_2).f0) < 3) = true := decide_eq_true c23
           clear c23
           by_cases c24 : ((rd_T64 l0_2 x5_2).f1) = (at3 ((rd_T64 l0_2 x5_2).f0) x170000_2 x170001_2 x170002_2)
           ·rw [if_pos c24] at H
            have c24b0 : (((rd_T64 l0_2 x5_2).f1) == (at3 ((rd_T64 l0_2 x5_2).f0) x170000_2 x170001_2 x170002_2)) = true := beq_iff_eq.mpr c24
            have c24b1 : (((rd_T64 l0_2 x5_2).f1) != (at3 ((rd_T64 l0_2 x5_2).f0) x170000_2 x170001_2 x170002_2)) = false := bne_eq_false_iff_eq.mpr c24
            clear c24
            replace H := Option.bind_eq_some_iff.mp H
            obtain ⟨t176,A250,H⟩ := H
            try dsimp only at H
            have A25 := Aside0.mk A250
            clear A250
            by_cases c26 : t176 = true
            ·subst c26
             rw [if_pos rfl] at H
             obtain rfl := Option.some.inj H
             have hnb27 := NB166_169.out
             have hnc27 := NB169_166.out
             obtain ⟨hcz28_0,hcz28_1,hcz28_2,hcz28_3,hcz28_4,hcz28_5,hcz28_6,hcz28_7,hcz28_8,hcz28_9⟩ := cl10 BK166.out
             obtain ⟨hfz28_0,hfz28_1,hfz28_2,hfz28_3,hfz28_4,hfz28_5,hfz28_6,hfz28_7,hfz28_8,hfz28_9⟩ := fz10 BK166.out
             have p173 : 0 ≤ (x5_2 : Int) := od
             have q173 : x5_2 < (l0_2.length : Int) := od
             obtain ⟨ad173,e173,hx173_0,hx173_1,hx173_2,hx173_3⟩ := at_T64 HR0_2.out x5_2 p173 q173
             cases e173
             replace hx173_0 := cb HB.out hx173_0
             replace hx173_1 := cb HB.out hx173_1
             replace hx173_2 := cb HB.out hx173_2
             replace hx173_3 := cb HB.out hx173_3
             replace p173 := eq_true p173
             replace q173 := eq_true q173
             try go_wp2_with (first | ((with_reducible refine gate_dst (N:=6) rfl ?_); (try (refine gate_guard (by rfl) ?_; dsimp only)); refine box_event ?hg (N:=6) ?hd (cs := #[.int .i64 0,.int .i64 0,.int .i64 0,.string (⟨#[]⟩ : ByteArray)]) (t:=64) ?hr ?_; (case hd => rfl); (case hg => rfl); (case hr => first | (go_simp; done) | (go_simp; rfl)); intro gb174 hg w29 hbox hb; have n0_ := Aside0.mk (Kd.R_below (rA HO_4.out) hb); have n1_ := Aside0.mk (bb BK166.out hb); have n2_ := Aside0.mk (bb BK169.out hb); have n3_ := Aside0.mk (below_step bA hb); have n4_ := Aside0.mk (hbox); have n5_ := Aside0.mk ((gw hg : w.heap.size ≤ gb174)); have n6_ := Aside0.mk ((gw hg : w.heap.size ≤ gb174)); have n7_ := Aside0.mk ((nl hg BK166.out)); have n8_ := Aside0.mk ((ng hg BK166.out)); have n9_ := Aside0.mk ((nl hg BK169.out)); have n10_ := Aside0.mk ((ng hg BK169.out)); clear HO_4 BK166 BK169 HB; have HO_4 := n0_; have BK166 := n1_; have BK169 := n2_; have HB := n3_; have BK174 := n4_; have GW174 := n5_; have GE174 := n6_; have NB166_174 := n7_; have NB174_166 := n8_; have NB169_174 := n9_; have NB174_169 := n10_; clear n0_ n1_ n2_ n3_ n4_ n5_ n6_ n7_ n8_ n9_ n10_; clear hb hbox hg; have hnb30 := NB174_166.out; have hnc30 := NB166_174.out; have hnb31 := NB174_169.out; have hnc31 := NB169_174.out; obtain ⟨hcz32_0,hcz32_1,hcz32_2,hcz32_3⟩ := cl4 BK174.out; obtain ⟨hfz32_0,hfz32_1,hfz32_2,hfz32_3⟩ := fz4 BK174.out))
             have n0_ : Aside0 (Kd.R Kd.string 9 ((((w29.setCell ⟨gb174,0,none⟩ (.int .i64 ((rd_T64 l0_2 x5_2).f0))).setCell ⟨gb174,1,none⟩ (.int .i64 ((rd_T64 l0_2 x5_2).f1))).setCell ⟨gb174,2,none⟩ (.int .i64 ((rd_T64 l0_2 x5_2).f2))).setCell ⟨gb174,3,none⟩ (.string ((rd_T64 l0_2 x5_2).f3))) w.heap.size (fun _ => True) u4 x4_2) := ⟨by (with_reducible repeat (first | apply Kd.R_alloc | apply Kd.R_drewN | apply Kd.R_drew)); exact Kd.R_mono (Kd.R_far (p:=⟨gb174,3,none⟩) (Kd.R_far (p:=⟨gb174,2,none⟩) (Kd.R_far (p:=⟨gb174,1,none⟩) (Kd.R_far (p:=⟨gb174,0,none⟩) (Kd.R_types HO_4.out BK174.out (by decide)) (fun _ hk => hk.2) (.int .i64 ((rd_T64 l0_2 x5_2).f0))) (fun _ hk => hk.2) (.int .i64 ((rd_T64 l0_2 x5_2).f1))) (fun _ hk => hk.2) (.int .i64 ((rd_T64 l0_2 x5_2).f2))) (fun _ hk => hk.2) (.string ((rd_T64 l0_2 x5_2).f3))) (fun _ hk => trivial)⟩
             have n1_ : Aside0 (((((w29.setCell ⟨gb174,0,none⟩ (.int .i64 ((rd_T64 l0_2 x5_2).f0))).setCell ⟨gb174,1,none⟩ (.int .i64 ((rd_T64 l0_2 x5_2).f1))).setCell ⟨gb174,2,none⟩ (.int .i64 ((rd_T64 l0_2 x5_2).f2))).setCell ⟨gb174,3,none⟩ (.string ((rd_T64 l0_2 x5_2).f3))).heap[gb166]? = some (.cells #[.int .i64 a0_0,.int .i64 a0_1,.slice (some ad173) l0_2.length c0_2,.slice A0_3 l0_3.length c0_3,.int .i64 a0_4,.int .i64 a0_5,.int .i64 a0_6,.int .i64 a0_7,.int .i64 a0_8,.int .i64 a0_9] 35 (0,0))) := ⟨kF BK166.out⟩
             have n2_ : Aside0 (((((w29.setCell ⟨gb174,0,none⟩ (.int .i64 ((rd_T64 l0_2 x5_2).f0))).setCell ⟨gb174,1,none⟩ (.int .i64 ((rd_T64 l0_2 x5_2).f1))).setCell ⟨gb174,2,none⟩ (.int .i64 ((rd_T64 l0_2 x5_2).f2))).setCell ⟨gb174,3,none⟩ (.string ((rd_T64 l0_2 x5_2).f3))).heap[gb169]? = some (.cells #[.int .i64 x170000_2,.int .i64 x170001_2,.int .i64 x170002_2] 24 (0,0))) := ⟨kF BK169.out⟩
             have n3_ : Aside0 (((((w29.setCell ⟨gb174,0,none⟩ (.int .i64 ((rd_T64 l0_2 x5_2).f0))).setCell ⟨gb174,1,none⟩ (.int .i64 ((rd_T64 l0_2 x5_2).f1))).setCell ⟨gb174,2,none⟩ (.int .i64 ((rd_T64 l0_2 x5_2).f2))).setCell ⟨gb174,3,none⟩ (.string ((rd_T64 l0_2 x5_2).f3))).heap[gb174]? = some (.cells #[.int .i64 ((rd_T64 l0_2 x5_2).f0),.int .i64 ((rd_T64 l0_2 x5_2).f1),.int .i64 ((rd_T64 l0_2 x5_2).f2),.string ((rd_T64 l0_2 x5_2).f3)] 64 (0,0))) := ⟨by (with_reducible repeat (first | refine blk_drewN ?_ _ | refine blk_drew ?_ | refine blk_alloc ?_ _)); refine blk_put (cs := #[.int .i64 ((rd_T64 l0_2 x5_2).f0),.int .i64 ((rd_T64 l0_2 x5_2).f1),.int .i64 ((rd_T64 l0_2 x5_2).f2),.string (⟨#[]⟩ : ByteArray)]) ?_ 3 _ rfl; (with_reducible repeat (first | refine blk_drewN ?_ _ | refine blk_drew ?_ | refine blk_alloc ?_ _)); refine blk_put (cs := #[.int .i64 ((rd_T64 l0_2 x5_2).f0),.int .i64 ((rd_T64 l0_2 x5_2).f1),.int .i64 0,.string (⟨#[]⟩ : ByteArray)]) ?_ 2 _ rfl; (with_reducible repeat (first | refine blk_drewN ?_ _ | refine blk_drew ?_ | refine blk_alloc ?_ _)); refine blk_put (cs := #[.int .i64 ((rd_T64 l0_2 x5_2).f0),.int .i64 0,.int .i64 0,.string (⟨#[]⟩ : ByteArray)]) ?_ 1 _ rfl; (with_reducible repeat (first | refine blk_drewN ?_ _ | refine blk_drew ?_ | refine blk_alloc ?_ _)); refine blk_put (cs := #[.int .i64 0,.int .i64 0,.int .i64 0,.string (⟨#[]⟩ : ByteArray)]) ?_ 0 _ rfl; (with_reducible repeat (first | refine blk_drewN ?_ _ | refine blk_drew ?_ | refine blk_alloc ?_ _)); exact BK174.out⟩
             have n4_ : Aside0 (Below w.heap.size w ((((w29.setCell ⟨gb174,0,none⟩ (.int .i64 ((rd_T64 l0_2 x5_2).f0))).setCell ⟨gb174,1,none⟩ (.int .i64 ((rd_T64 l0_2 x5_2).f1))).setCell ⟨gb174,2,none⟩ (.int .i64 ((rd_T64 l0_2 x5_2).f2))).setCell ⟨gb174,3,none⟩ (.string ((rd_T64 l0_2 x5_2).f3)))) := ⟨bA⟩
             (try clear HO_4)
             (try clear BK166)
             (try clear BK169)
             (try clear BK174)
             (try clear HB)
             generalize ((((w29.setCell ⟨gb174,0,none⟩ (.int .i64 ((rd_T64 l0_2 x5_2).f0))).setCell ⟨gb174,1,none⟩ (.int .i64 ((rd_T64 l0_2 x5_2).f1))).setCell ⟨gb174,2,none⟩ (.int .i64 ((rd_T64 l0_2 x5_2).f2))).setCell ⟨gb174,3,none⟩ (.string ((rd_T64 l0_2 x5_2).f3))) = w33 at n0_ n1_ n2_ n3_ n4_ ⊢
             have HO_4 := n0_
             have BK166 := n1_
             have BK169 := n2_
             have BK174 := n3_
             have HB := n4_
             clear n0_ n1_ n2_ n3_ n4_
             have n0_ := Aside0.mk (Kd.R_drew HO_4.out)
             have n1_ := Aside0.mk (blk_drew BK166.out)
             have n2_ := Aside0.mk (blk_drew BK169.out)
             have n3_ := Aside0.mk (blk_drew BK174.out)
             have n4_ := Aside0.mk (below_drew1 HB.out)
             clear HO_4 BK166 BK169 BK174 HB
             have HO_4 := n0_
             have BK166 := n1_
             have BK169 := n2_
             have BK174 := n3_
             have HB := n4_
             clear n0_ n1_ n2_ n3_ n4_
             refine start_ (n:=26) (S:=fun w' => w'.cell? ⟨gb174,0,none⟩ = some (.int .i64 ((rd_T64 l0_2 x5_2).f0)) ∧ w'.cell? ⟨gb174,1,none⟩ = some (.int .i64 ((rd_T64 l0_2 x5_2).f1)) ∧ w'.cell? ⟨gb174,2,none⟩ = some (.int .i64 ((rd_T64 l0_2 x5_2).f2)) ∧ w'.cell? ⟨gb174,3,none⟩ = some (.string ((rd_T64 l0_2 x5_2).f3)) ∧ w'.cell? ⟨gb169,0,none⟩ = some (.int .i64 x170000_2) ∧ w'.cell? ⟨gb169,1,none⟩ = some (.int .i64 x170001_2) ∧ w'.cell? ⟨gb169,2,none⟩ = some (.int .i64 x170002_2) ∧ w'.cell? ⟨gb169,((rd_T64 l0_2 x5_2).f0).toNat,none⟩ = some (.int .i64 (at3 ((rd_T64 l0_2 x5_2).f0) x170000_2 x170001_2 x170002_2))) (ds := []) (bm 26 0) (by kernel_rfl) rfl rfl ⟨bl BK174 0,bl BK174 1,bl BK174 2,bl BK174 3,bl BK169 0,bl BK169 1,bl BK169 2,at3_cell0 (od) (od) (bl BK169 0) (bl BK169 1) (bl BK169 2)⟩ (fun hHeld => ?_); refine with_tabW spec_StateOK.tab9 spec_StateOK.bits9 (fun HT_ HW_ => ?_)
             generalize w33.drew = w34 at HO_4 BK166 BK169 BK174 HB hHeld ⊢
             refine pV_ 0 48 (bm 26 1) HT_.out ?_
             refine pV_ 2 50 (bm 26 5) HT_.out ?_
             refine pV_ 4 52 (bm 26 21) HT_.out ?_
             refine pV_ 6 54 (bm 26 85) HT_.out ?_
             refine take_ (i:=1) (N:=some 49) (v:=?_) (a':=?_) (bm 26 87) rfl rfl (take_ofW HT_.out HW_.out (by kernel_rfl)) (fun _ _ _ h => h) (Or.inl ⟨by rfl,?_⟩) hHeld ?_ ?_
             rotate_left
             ·rintro w' ⟨s0,s1,s2,s3,s4,s5,s6,s7⟩
              go_simp
              with_reducible rfl
             rotate_left
             ·simp only [Act.put,setIfInBounds_toArray,set_cons_zero,set_cons_succ,i64_w,i32_w]
              rfl
             refine take_ (i:=3) (N:=some 51) (v:=?_) (a':=?_) (bm 26 95) rfl rfl (take_ofW HT_.out HW_.out (by kernel_rfl)) (fun _ _ _ h => h) (Or.inl ⟨by rfl,?_⟩) hHeld ?_ ?_
             rotate_left
             ·rintro w' ⟨s0,s1,s2,s3,s4,s5,s6,s7⟩
              go_simp
              with_reducible rfl
             rotate_left
             ·simp only [Act.put,setIfInBounds_toArray,set_cons_zero,set_cons_succ,i64_w,i32_w]
              rfl
             refine take_ (i:=5) (N:=some 53) (v:=?_) (a':=?_) (bm 26 127) rfl rfl (take_ofW HT_.out HW_.out (by kernel_rfl)) (fun _ _ _ h => h) (Or.inl ⟨by rfl,?_⟩) hHeld ?_ ?_
             rotate_left
             ·rintro w' ⟨s0,s1,s2,s3,s4,s5,s6,s7⟩
              go_simp
              with_reducible rfl
             rotate_left
             ·simp only [Act.put,setIfInBounds_toArray,set_cons_zero,set_cons_succ,i64_w,i32_w]
              rfl
             refine take_ (i:=7) (N:=some 55) (v:=?_) (a':=?_) (bm 26 255) rfl rfl (take_ofW HT_.out HW_.out (by kernel_rfl)) (fun _ _ _ h => h) (Or.inl ⟨by rfl,?_⟩) hHeld ?_ ?_
             rotate_left
             ·rintro w' ⟨s0,s1,s2,s3,s4,s5,s6,s7⟩
              go_simp
              with_reducible rfl
             rotate_left
             ·simp only [Act.put,setIfInBounds_toArray,set_cons_zero,set_cons_succ,i64_w,i32_w]
              rfl
             refine pV_ 8 56 (bm 26 511) HT_.out ?_
             refine one_ (i:=9) (N:=some 57) (bm 26 1023) rfl rfl (one_of HT_.out (by kernel_rfl)) (by decide) (fun K hK => ?_)
             refine goes_ Tryz.func35 (by kernel_rfl) rfl #[.agg #[.int .i64 0,.int .i64 0,.int .i64 ((rd_T64 l0_2 x5_2).f0),.int .i64 ((rd_T64 l0_2 x5_2).f1),.int .i64 ((rd_T64 l0_2 x5_2).f2),.string ((rd_T64 l0_2 x5_2).f3)],.int .i64 0] (by rfl) rfl rfl mA ?_
             with_reducible refine (spec_l06Tiered.calls k2 0 0 ((rd_T64 l0_2 x5_2).f0) ((rd_T64 l0_2 x5_2).f1) ((rd_T64 l0_2 x5_2).f2) ((rd_T64 l0_2 x5_2).f3) 0 true _ A20.out).mono ?_
             rintro e w35 ⟨rfl,hb⟩
             refine ⟨_,rfl,?_⟩
             have n0_ := Aside0.mk (Kd.R_below (rA HO_4.out) hb)
             have n1_ := Aside0.mk (bb BK166.out hb)
             have n2_ := Aside0.mk (bb BK169.out hb)
             have n3_ := Aside0.mk (bb BK174.out hb)
             have n4_ := Aside0.mk (below_step bA hb)
             clear HO_4 BK166 BK169 BK174 HB
             have HO_4 := n0_
             have BK166 := n1_
             have BK169 := n2_
             have BK174 := n3_
             have HB := n4_
             clear n0_ n1_ n2_ n3_ n4_
             (try clear hb)
             (try clear hb2)
             (try clear hk)
             (try clear hi)
             have hia36 := ia_dyn0 (P:=Tryz.prog) (t:=24) (e:=3) Tryz.underlying24 (by kernel_rfl) (by kernel_rfl) gb169 ((rd_T64 l0_2 x5_2).f0) (od) (od)
             obtain ⟨Ao37,co37,eo37⟩ := Kd.R_slice HO_4.out
             (first | subst eo37 | (injection eo37 with f1_ f2_ f3_; have f4_ := f1_.symm; have f5_ := f3_.symm; clear f1_ f2_ f3_; subst f4_; subst f5_))
             refine hK.out _ _ ⟨bl BK174 0,bl BK174 1,bl BK174 2,bl BK174 3,bl BK169 0,bl BK169 1,bl BK169 2,at3_cell0 (od) (od) (bl BK169 0) (bl BK169 1) (bl BK169 2)⟩ (fun hHeld => ?_)
             clear hK K
             refine norm_ (a':=?_) ?_ ?_
             rotate_left
             ·show Act.put _ (some 57) _ = _
              simp only [Act.put,setIfInBounds_toArray,set_cons_zero,set_cons_succ,i64_w,i32_w]
              rfl
             refine pV_ 10 58 (bm 26 2047) HT_.out ?_
             refine pV_ 11 59 (bm 26 4095) HT_.out ?_
             refine pV_ 12 60 (bm 26 8191) HT_.out ?_
             refine pV_ 14 62 (bm 26 24575) HT_.out ?_
             refine take_ (i:=13) (N:=some 61) (v:=?_) (a':=?_) (bm 26 32767) rfl rfl (take_ofW HT_.out HW_.out (by kernel_rfl)) (fun _ _ _ h => h) (Or.inl ⟨by rfl,?_⟩) hHeld ?_ ?_
             rotate_left
             ·rintro w' ⟨s0,s1,s2,s3,s4,s5,s6,s7⟩
              go_simp
              with_reducible rfl
             rotate_left
             ·simp only [Act.put,setIfInBounds_toArray,set_cons_zero,set_cons_succ,i64_w,i32_w]
              rfl
             refine take_ (i:=15) (N:=some 63) (v:=?_) (a':=?_) (bm 26 65535) rfl rfl (take_ofW HT_.out HW_.out (by kernel_rfl)) (fun _ _ _ h => h) (Or.inl ⟨by rfl,?_⟩) hHeld ?_ ?_
             rotate_left
             ·rintro w' ⟨s0,s1,s2,s3,s4,s5,s6,s7⟩
              go_simp
              with_reducible rfl
             rotate_left
             ·simp only [Act.put,setIfInBounds_toArray,set_cons_zero,set_cons_succ,i64_w,i32_w]
              rfl
             refine pV_ 16 64 (bm 26 131071) HT_.out ?_
             refine take_ (i:=17) (N:=some 65) (v:=?_) (a':=?_) (bm 26 262143) rfl rfl (take_ofW HT_.out HW_.out (by kernel_rfl)) (fun _ _ _ h => h) (Or.inl ⟨by rfl,?_⟩) hHeld ?_ ?_
             rotate_left
             ·rintro w' ⟨s0,s1,s2,s3,s4,s5,s6,s7⟩
              go_simp
              with_reducible rfl
             rotate_left
             ·simp only [Act.put,setIfInBounds_toArray,set_cons_zero,set_cons_succ,i64_w,i32_w]
              rfl
             refine pV_ 18 66 (bm 26 524287) HT_.out ?_
             refine pV_ 19 67 (bm 26 1048575) HT_.out ?_
             refine pV_ 20 68 (bm 26 2097151) HT_.out ?_
             refine pV_ 21 69 (bm 26 4194303) HT_.out ?_
             refine pV_ 22 70 (bm 26 8388607) HT_.out ?_
             refine take_ (i:=23) (N:=some 71) (v:=?_) (a':=?_) (bm 26 16777215) rfl rfl (take_ofW HT_.out HW_.out (by kernel_rfl)) (fun _ _ _ h => h) (Or.inl ⟨by rfl,?_⟩) hHeld ?_ ?_
             rotate_left
             ·rintro w' ⟨s0,s1,s2,s3,s4,s5,s6,s7⟩
              go_simp
              with_reducible rfl
             rotate_left
             ·simp only [Act.put,setIfInBounds_toArray,set_cons_zero,set_cons_succ,i64_w,i32_w]
              rfl
             refine one_ (i:=24) (N:=some 72) (bm 26 33554431) rfl rfl (one_of HT_.out (by kernel_rfl)) (by decide) (fun K hK => ?_)
             refine goes_ Tryz.func36 (by kernel_rfl) rfl #[.slice Ao37 x4_2.length co37,.string ((rd_T64 l0_2 x5_2).f3)] (by rfl) rfl rfl mA ?_
             with_reducible refine (spec_l06In.calls k2 _ _ x4_2 ((rd_T64 l0_2 x5_2).f3) true _ ?side1 ?side2 A25.out).mono ?_
             (case side1 => repeat (first | exact (Kd.R_reads' HO_4.out).2.2 | (with_reducible refine Kd.C_alloc ?_ _) | (with_reducible refine Kd.C_drewN ?_ _) | (with_reducible refine Kd.C_drew ?_)))
             (case side2 => exact (Kd.R_reads' HO_4.out).2.1)
             rintro e w' ⟨rfl,⟨nd,rfl⟩⟩
             refine ⟨_,rfl,?_⟩
             refine hK.out _ _ ⟨bl BK174 0,bl BK174 1,bl BK174 2,bl BK174 3,bl BK169 0,bl BK169 1,bl BK169 2,at3_cell0 (od) (od) (bl BK169 0) (bl BK169 1) (bl BK169 2)⟩ (fun hHeld => ?_)
             clear hK K
             refine norm_ (a':=?_) ?_ ?_
             rotate_left
             ·show Act.put _ (some 72) _ = _
              simp only [Act.put,setIfInBounds_toArray,set_cons_zero,set_cons_succ,i64_w,i32_w]
              rfl
             refine pV_ 25 73 (bm 26 67108863) HT_.out ?_
             refine done_ (done_of HT_.out (by kernel_rfl)) ?_
             try go_wp2
             go_ret
             exact ⟨by first | rfl | (simp only [i64_w,i32_w] <;> rfl) | (simp [errW_none,errW_some] <;> rfl) | (simp [*,errW_none,errW_some] <;> rfl),bA⟩
            ·replace c26 := Bool.eq_false_iff.mpr c26
             subst c26
             rw [if_neg (show ¬ (false = true) by decide)] at H
             by_cases c38 : x4_2.length < 8796093022208
             ·rw [if_pos c38] at H
              have LMc38 := Aside0.mk c38
              clear c38
              obtain ⟨y177,hy177⟩ : ∃ y_ : List ByteArray,y_ = (x4_2 ++ [(rd_T64 l0_2 x5_2).f3]) := ⟨_,rfl⟩
              replace H : (spec_StateOK.l0 k2 y177 (wrap64 (x5_2 + 1)) a0_0 a0_1 l0_2 l0_3 a0_4 a0_5 a0_6 a0_7 a0_8 a0_9 (if ((rd_T64 l0_2 x5_2).f0) = 0 then (rd_T64 l0_2 x5_2).f2 else x170000_2) (if ((rd_T64 l0_2 x5_2).f0) = 1 then (rd_T64 l0_2 x5_2).f2 else x170001_2) (if ((rd_T64 l0_2 x5_2).f0) = 2 then (rd_T64 l0_2 x5_2).f2 else x170002_2)) = some r := by first | (rw [hy177]; with_reducible exact H) | (have H2_ := (Option.bind_some _ _).symm.trans H; rw [hy177]; with_reducible exact H2_) | (have H2_ := (Option.bind_some _ _).symm.trans H; with_reducible exact H2_) | with_reducible exact H | (rw [hy177]; exact H) | exact H
              have Ny177 := Aside0.mk hy177
              clear hy177
              have H' := Aside0.mk H
              clear H
              have hnb39 := NB166_169.out
              have hnc39 := NB169_166.out
              obtain ⟨hcz40_0,hcz40_1,hcz40_2,hcz40_3,hcz40_4,hcz40_5,hcz40_6,hcz40_7,hcz40_8,hcz40_9⟩ := cl10 BK166.out
              obtain ⟨hfz40_0,hfz40_1,hfz40_2,hfz40_3,hfz40_4,hfz40_5,hfz40_6,hfz40_7,hfz40_8,hfz40_9⟩ := fz10 BK166.out
              have p173 : 0 ≤ (x5_2 : Int) := od
              have q173 : x5_2 < (l0_2.length : Int) := od
              obtain ⟨ad173,e173,hx173_0,hx173_1,hx173_2,hx173_3⟩ := at_T64 HR0_2.out x5_2 p173 q173
              cases e173
              replace hx173_0 := cb HB.out hx173_0
              replace hx173_1 := cb HB.out hx173_1
              replace hx173_2 := cb HB.out hx173_2
              replace hx173_3 := cb HB.out hx173_3
              replace p173 := eq_true p173
              replace q173 := eq_true q173
              try go_wp2_with (first | ((with_reducible refine gate_dst (N:=6) rfl ?_); (try (refine gate_guard (by rfl) ?_; dsimp only)); refine box_event ?hg (N:=6) ?hd (cs := #[.int .i64 0,.int .i64 0,.int .i64 0,.string (⟨#[]⟩ : ByteArray)]) (t:=64) ?hr ?_; (case hd => rfl); (case hg => rfl); (case hr => first | (go_simp; done) | (go_simp; rfl)); intro gb174 hg w41 hbox hb; have n0_ := Aside0.mk (Kd.R_below (rA HO_4.out) hb); have n1_ := Aside0.mk (bb BK166.out hb); have n2_ := Aside0.mk (bb BK169.out hb); have n3_ := Aside0.mk (below_step bA hb); have n4_ := Aside0.mk (hbox); have n5_ := Aside0.mk ((gw hg : w.heap.size ≤ gb174)); have n6_ := Aside0.mk ((gw hg : w.heap.size ≤ gb174)); have n7_ := Aside0.mk ((nl hg BK166.out)); have n8_ := Aside0.mk ((ng hg BK166.out)); have n9_ := Aside0.mk ((nl hg BK169.out)); have n10_ := Aside0.mk ((ng hg BK169.out)); clear HO_4 BK166 BK169 HB; have HO_4 := n0_; have BK166 := n1_; have BK169 := n2_; have HB := n3_; have BK174 := n4_; have GW174 := n5_; have GE174 := n6_; have NB166_174 := n7_; have NB174_166 := n8_; have NB169_174 := n9_; have NB174_169 := n10_; clear n0_ n1_ n2_ n3_ n4_ n5_ n6_ n7_ n8_ n9_ n10_; clear hb hbox hg; have hnb42 := NB174_166.out; have hnc42 := NB166_174.out; have hnb43 := NB174_169.out; have hnc43 := NB169_174.out; obtain ⟨hcz44_0,hcz44_1,hcz44_2,hcz44_3⟩ := cl4 BK174.out; obtain ⟨hfz44_0,hfz44_1,hfz44_2,hfz44_3⟩ := fz4 BK174.out))
              have n0_ : Aside0 (Kd.R Kd.string 9 ((((w41.setCell ⟨gb174,0,none⟩ (.int .i64 ((rd_T64 l0_2 x5_2).f0))).setCell ⟨gb174,1,none⟩ (.int .i64 ((rd_T64 l0_2 x5_2).f1))).setCell ⟨gb174,2,none⟩ (.int .i64 ((rd_T64 l0_2 x5_2).f2))).setCell ⟨gb174,3,none⟩ (.string ((rd_T64 l0_2 x5_2).f3))) w.heap.size (fun _ => True) u4 x4_2) := ⟨by (with_reducible repeat (first | apply Kd.R_alloc | apply Kd.R_drewN | apply Kd.R_drew)); exact Kd.R_mono (Kd.R_far (p:=⟨gb174,3,none⟩) (Kd.R_far (p:=⟨gb174,2,none⟩) (Kd.R_far (p:=⟨gb174,1,none⟩) (Kd.R_far (p:=⟨gb174,0,none⟩) (Kd.R_types HO_4.out BK174.out (by decide)) (fun _ hk => hk.2) (.int .i64 ((rd_T64 l0_2 x5_2).f0))) (fun _ hk => hk.2) (.int .i64 ((rd_T64 l0_2 x5_2).f1))) (fun _ hk => hk.2) (.int .i64 ((rd_T64 l0_2 x5_2).f2))) (fun _ hk => hk.2) (.string ((rd_T64 l0_2 x5_2).f3))) (fun _ hk => trivial)⟩
              have n1_ : Aside0 (((((w41.setCell ⟨gb174,0,none⟩ (.int .i64 ((rd_T64 l0_2 x5_2).f0))).setCell ⟨gb174,1,none⟩ (.int .i64 ((rd_T64 l0_2 x5_2).f1))).setCell ⟨gb174,2,none⟩ (.int .i64 ((rd_T64 l0_2 x5_2).f2))).setCell ⟨gb174,3,none⟩ (.string ((rd_T64 l0_2 x5_2).f3))).heap[gb166]? = some (.cells #[.int .i64 a0_0,.int .i64 a0_1,.slice (some ad173) l0_2.length c0_2,.slice A0_3 l0_3.length c0_3,.int .i64 a0_4,.int .i64 a0_5,.int .i64 a0_6,.int .i64 a0_7,.int .i64 a0_8,.int .i64 a0_9] 35 (0,0))) := ⟨kF BK166.out⟩
              have n2_ : Aside0 (((((w41.setCell ⟨gb174,0,none⟩ (.int .i64 ((rd_T64 l0_2 x5_2).f0))).setCell ⟨gb174,1,none⟩ (.int .i64 ((rd_T64 l0_2 x5_2).f1))).setCell ⟨gb174,2,none⟩ (.int .i64 ((rd_T64 l0_2 x5_2).f2))).setCell ⟨gb174,3,none⟩ (.string ((rd_T64 l0_2 x5_2).f3))).heap[gb169]? = some (.cells #[.int .i64 x170000_2,.int .i64 x170001_2,.int .i64 x170002_2] 24 (0,0))) := ⟨kF BK169.out⟩
              have n3_ : Aside0 (((((w41.setCell ⟨gb174,0,none⟩ (.int .i64 ((rd_T64 l0_2 x5_2).f0))).setCell ⟨gb174,1,none⟩ (.int .i64 ((rd_T64 l0_2 x5_2).f1))).setCell ⟨gb174,2,none⟩ (.int .i64 ((rd_T64 l0_2 x5_2).f2))).setCell ⟨gb174,3,none⟩ (.string ((rd_T64 l0_2 x5_2).f3))).heap[gb174]? = some (.cells #[.int .i64 ((rd_T64 l0_2 x5_2).f0),.int .i64 ((rd_T64 l0_2 x5_2).f1),.int .i64 ((rd_T64 l0_2 x5_2).f2),.string ((rd_T64 l0_2 x5_2).f3)] 64 (0,0))) := ⟨by (with_reducible repeat (first | refine blk_drewN ?_ _ | refine blk_drew ?_ | refine blk_alloc ?_ _)); refine blk_put (cs := #[.int .i64 ((rd_T64 l0_2 x5_2).f0),.int .i64 ((rd_T64 l0_2 x5_2).f1),.int .i64 ((rd_T64 l0_2 x5_2).f2),.string (⟨#[]⟩ : ByteArray)]) ?_ 3 _ rfl; (with_reducible repeat (first | refine blk_drewN ?_ _ | refine blk_drew ?_ | refine blk_alloc ?_ _)); refine blk_put (cs := #[.int .i64 ((rd_T64 l0_2 x5_2).f0),.int .i64 ((rd_T64 l0_2 x5_2).f1),.int .i64 0,.string (⟨#[]⟩ : ByteArray)]) ?_ 2 _ rfl; (with_reducible repeat (first | refine blk_drewN ?_ _ | refine blk_drew ?_ | refine blk_alloc ?_ _)); refine blk_put (cs := #[.int .i64 ((rd_T64 l0_2 x5_2).f0),.int .i64 0,.int .i64 0,.string (⟨#[]⟩ : ByteArray)]) ?_ 1 _ rfl; (with_reducible repeat (first | refine blk_drewN ?_ _ | refine blk_drew ?_ | refine blk_alloc ?_ _)); refine blk_put (cs := #[.int .i64 0,.int .i64 0,.int .i64 0,.string (⟨#[]⟩ : ByteArray)]) ?_ 0 _ rfl; (with_reducible repeat (first | refine blk_drewN ?_ _ | refine blk_drew ?_ | refine blk_alloc ?_ _)); exact BK174.out⟩
              have n4_ : Aside0 (Below w.heap.size w ((((w41.setCell ⟨gb174,0,none⟩ (.int .i64 ((rd_T64 l0_2 x5_2).f0))).setCell ⟨gb174,1,none⟩ (.int .i64 ((rd_T64 l0_2 x5_2).f1))).setCell ⟨gb174,2,none⟩ (.int .i64 ((rd_T64 l0_2 x5_2).f2))).setCell ⟨gb174,3,none⟩ (.string ((rd_T64 l0_2 x5_2).f3)))) := ⟨bA⟩
              (try clear HO_4)
              (try clear BK166)
              (try clear BK169)
              (try clear BK174)
              (try clear HB)
              generalize ((((w41.setCell ⟨gb174,0,none⟩ (.int .i64 ((rd_T64 l0_2 x5_2).f0))).setCell ⟨gb174,1,none⟩ (.int .i64 ((rd_T64 l0_2 x5_2).f1))).setCell ⟨gb174,2,none⟩ (.int .i64 ((rd_T64 l0_2 x5_2).f2))).setCell ⟨gb174,3,none⟩ (.string ((rd_T64 l0_2 x5_2).f3))) = w45 at n0_ n1_ n2_ n3_ n4_ ⊢
              have HO_4 := n0_
              have BK166 := n1_
              have BK169 := n2_
              have BK174 := n3_
              have HB := n4_
              clear n0_ n1_ n2_ n3_ n4_
              have n0_ := Aside0.mk (Kd.R_drew HO_4.out)
              have n1_ := Aside0.mk (blk_drew BK166.out)
              have n2_ := Aside0.mk (blk_drew BK169.out)
              have n3_ := Aside0.mk (blk_drew BK174.out)
              have n4_ := Aside0.mk (below_drew1 HB.out)
              clear HO_4 BK166 BK169 BK174 HB
              have HO_4 := n0_
              have BK166 := n1_
              have BK169 := n2_
              have BK174 := n3_
              have HB := n4_
              clear n0_ n1_ n2_ n3_ n4_
              refine start_ (n:=26) (S:=fun w' => w'.cell? ⟨gb174,0,none⟩ = some (.int .i64 ((rd_T64 l0_2 x5_2).f0)) ∧ w'.cell? ⟨gb174,1,none⟩ = some (.int .i64 ((rd_T64 l0_2 x5_2).f1)) ∧ w'.cell? ⟨gb174,2,none⟩ = some (.int .i64 ((rd_T64 l0_2 x5_2).f2)) ∧ w'.cell? ⟨gb174,3,none⟩ = some (.string ((rd_T64 l0_2 x5_2).f3)) ∧ w'.cell? ⟨gb169,0,none⟩ = some (.int .i64 x170000_2) ∧ w'.cell? ⟨gb169,1,none⟩ = some (.int .i64 x170001_2) ∧ w'.cell? ⟨gb169,2,none⟩ = some (.int .i64 x170002_2) ∧ w'.cell? ⟨gb169,((rd_T64 l0_2 x5_2).f0).toNat,none⟩ = some (.int .i64 (at3 ((rd_T64 l0_2 x5_2).f0) x170000_2 x170001_2 x170002_2))) (ds := []) (bm 26 0) (by kernel_rfl) rfl rfl ⟨bl BK174 0,bl BK174 1,bl BK174 2,bl BK174 3,bl BK169 0,bl BK169 1,bl BK169 2,at3_cell0 (od) (od) (bl BK169 0) (bl BK169 1) (bl BK169 2)⟩ (fun hHeld => ?_); refine with_tabW spec_StateOK.tab9 spec_StateOK.bits9 (fun HT_ HW_ => ?_)
              generalize w45.drew = w46 at HO_4 BK166 BK169 BK174 HB hHeld ⊢
              refine pV_ 0 48 (bm 26 1) HT_.out ?_
              refine pV_ 2 50 (bm 26 5) HT_.out ?_
              refine pV_ 4 52 (bm 26 21) HT_.out ?_
              refine pV_ 6 54 (bm 26 85) HT_.out ?_
              refine take_ (i:=1) (N:=some 49) (v:=?_) (a':=?_) (bm 26 87) rfl rfl (take_ofW HT_.out HW_.out (by kernel_rfl)) (fun _ _ _ h => h) (Or.inl ⟨by rfl,?_⟩) hHeld ?_ ?_
              rotate_left
              ·rintro w' ⟨s0,s1,s2,s3,s4,s5,s6,s7⟩
               go_simp
               with_reducible rfl
              rotate_left
              ·simp only [Act.put,setIfInBounds_toArray,set_cons_zero,set_cons_succ,i64_w,i32_w]
               rfl
              refine take_ (i:=3) (N:=some 51) (v:=?_) (a':=?_) (bm 26 95) rfl rfl (take_ofW HT_.out HW_.out (by kernel_rfl)) (fun _ _ _ h => h) (Or.inl ⟨by rfl,?_⟩) hHeld ?_ ?_
              rotate_left
              ·rintro w' ⟨s0,s1,s2,s3,s4,s5,s6,s7⟩
               go_simp
               with_reducible rfl
              rotate_left
              ·simp only [Act.put,setIfInBounds_toArray,set_cons_zero,set_cons_succ,i64_w,i32_w]
               rfl
              refine take_ (i:=5) (N:=some 53) (v:=?_) (a':=?_) (bm 26 127) rfl rfl (take_ofW HT_.out HW_.out (by kernel_rfl)) (fun _ _ _ h => h) (Or.inl ⟨by rfl,?_⟩) hHeld ?_ ?_
              rotate_left
              ·rintro w' ⟨s0,s1,s2,s3,s4,s5,s6,s7⟩
               go_simp
               with_reducible rfl
              rotate_left
              ·simp only [Act.put,setIfInBounds_toArray,set_cons_zero,set_cons_succ,i64_w,i32_w]
               rfl
              refine take_ (i:=7) (N:=some 55) (v:=?_) (a':=?_) (bm 26 255) rfl rfl (take_ofW HT_.out HW_.out (by kernel_rfl)) (fun _ _ _ h => h) (Or.inl ⟨by rfl,?_⟩) hHeld ?_ ?_
              rotate_left
              ·rintro w' ⟨s0,s1,s2,s3,s4,s5,s6,s7⟩
               go_simp
               with_reducible rfl
              rotate_left
              ·simp only [Act.put,setIfInBounds_toArray,set_cons_zero,set_cons_succ,i64_w,i32_w]
               rfl
              refine pV_ 8 56 (bm 26 511) HT_.out ?_
              refine one_ (i:=9) (N:=some 57) (bm 26 1023) rfl rfl (one_of HT_.out (by kernel_rfl)) (by decide) (fun K hK => ?_)
              refine goes_ Tryz.func35 (by kernel_rfl) rfl #[.agg #[.int .i64 0,.int .i64 0,.int .i64 ((rd_T64 l0_2 x5_2).f0),.int .i64 ((rd_T64 l0_2 x5_2).f1),.int .i64 ((rd_T64 l0_2 x5_2).f2),.string ((rd_T64 l0_2 x5_2).f3)],.int .i64 0] (by rfl) rfl rfl mA ?_
              with_reducible refine (spec_l06Tiered.calls k2 0 0 ((rd_T64 l0_2 x5_2).f0) ((rd_T64 l0_2 x5_2).f1) ((rd_T64 l0_2 x5_2).f2) ((rd_T64 l0_2 x5_2).f3) 0 true _ A20.out).mono ?_
              rintro e w47 ⟨rfl,hb⟩
              refine ⟨_,rfl,?_⟩
              have n0_ := Aside0.mk (Kd.R_below (rA HO_4.out) hb)
              have n1_ := Aside0.mk (bb BK166.out hb)
              have n2_ := Aside0.mk (bb BK169.out hb)
              have n3_ := Aside0.mk (bb BK174.out hb)
              have n4_ := Aside0.mk (below_step bA hb)
              clear HO_4 BK166 BK169 BK174 HB
              have HO_4 := n0_
              have BK166 := n1_
              have BK169 := n2_
              have BK174 := n3_
              have HB := n4_
              clear n0_ n1_ n2_ n3_ n4_
              (try clear hb)
              (try clear hb2)
              (try clear hk)
              (try clear hi)
              have hia48 := ia_dyn0 (P:=Tryz.prog) (t:=24) (e:=3) Tryz.underlying24 (by kernel_rfl) (by kernel_rfl) gb169 ((rd_T64 l0_2 x5_2).f0) (od) (od)
              obtain ⟨Ao49,co49,eo49⟩ := Kd.R_slice HO_4.out
              (first | subst eo49 | (injection eo49 with f1_ f2_ f3_; have f4_ := f1_.symm; have f5_ := f3_.symm; clear f1_ f2_ f3_; subst f4_; subst f5_))
              refine hK.out _ _ ⟨bl BK174 0,bl BK174 1,bl BK174 2,bl BK174 3,bl BK169 0,bl BK169 1,bl BK169 2,at3_cell0 (od) (od) (bl BK169 0) (bl BK169 1) (bl BK169 2)⟩ (fun hHeld => ?_)
              clear hK K
              refine norm_ (a':=?_) ?_ ?_
              rotate_left
              ·show Act.put _ (some 57) _ = _
               simp only [Act.put,setIfInBounds_toArray,set_cons_zero,set_cons_succ,i64_w,i32_w]
               rfl
              refine pV_ 10 58 (bm 26 2047) HT_.out ?_
              refine pV_ 11 59 (bm 26 4095) HT_.out ?_
              refine pV_ 12 60 (bm 26 8191) HT_.out ?_
              refine pV_ 14 62 (bm 26 24575) HT_.out ?_
              refine take_ (i:=13) (N:=some 61) (v:=?_) (a':=?_) (bm 26 32767) rfl rfl (take_ofW HT_.out HW_.out (by kernel_rfl)) (fun _ _ _ h => h) (Or.inl ⟨by rfl,?_⟩) hHeld ?_ ?_
              rotate_left
              ·rintro w' ⟨s0,s1,s2,s3,s4,s5,s6,s7⟩
               go_simp
               with_reducible rfl
              rotate_left
              ·simp only [Act.put,setIfInBounds_toArray,set_cons_zero,set_cons_succ,i64_w,i32_w]
               rfl
              refine take_ (i:=15) (N:=some 63) (v:=?_) (a':=?_) (bm 26 65535) rfl rfl (take_ofW HT_.out HW_.out (by kernel_rfl)) (fun _ _ _ h => h) (Or.inl ⟨by rfl,?_⟩) hHeld ?_ ?_
              rotate_left
              ·rintro w' ⟨s0,s1,s2,s3,s4,s5,s6,s7⟩
               go_simp
               with_reducible rfl
              rotate_left
              ·simp only [Act.put,setIfInBounds_toArray,set_cons_zero,set_cons_succ,i64_w,i32_w]
               rfl
              refine pV_ 16 64 (bm 26 131071) HT_.out ?_
              refine take_ (i:=17) (N:=some 65) (v:=?_) (a':=?_) (bm 26 262143) rfl rfl (take_ofW HT_.out HW_.out (by kernel_rfl)) (fun _ _ _ h => h) (Or.inl ⟨by rfl,?_⟩) hHeld ?_ ?_
              rotate_left
              ·rintro w' ⟨s0,s1,s2,s3,s4,s5,s6,s7⟩
               go_simp
               with_reducible rfl
              rotate_left
              ·simp only [Act.put,setIfInBounds_toArray,set_cons_zero,set_cons_succ,i64_w,i32_w]
               rfl
              refine pV_ 18 66 (bm 26 524287) HT_.out ?_
              refine pV_ 19 67 (bm 26 1048575) HT_.out ?_
              refine pV_ 20 68 (bm 26 2097151) HT_.out ?_
              refine pV_ 21 69 (bm 26 4194303) HT_.out ?_
              refine pV_ 22 70 (bm 26 8388607) HT_.out ?_
              refine take_ (i:=23) (N:=some 71) (v:=?_) (a':=?_) (bm 26 16777215) rfl rfl (take_ofW HT_.out HW_.out (by kernel_rfl)) (fun _ _ _ h => h) (Or.inl ⟨by rfl,?_⟩) hHeld ?_ ?_
              rotate_left
              ·rintro w' ⟨s0,s1,s2,s3,s4,s5,s6,s7⟩
               go_simp
               with_reducible rfl
              rotate_left
              ·simp only [Act.put,setIfInBounds_toArray,set_cons_zero,set_cons_succ,i64_w,i32_w]
               rfl
              refine one_ (i:=24) (N:=some 72) (bm 26 33554431) rfl rfl (one_of HT_.out (by kernel_rfl)) (by decide) (fun K hK => ?_)
              refine goes_ Tryz.func36 (by kernel_rfl) rfl #[.slice Ao49 x4_2.length co49,.string ((rd_T64 l0_2 x5_2).f3)] (by rfl) rfl rfl mA ?_
              with_reducible refine (spec_l06In.calls k2 _ _ x4_2 ((rd_T64 l0_2 x5_2).f3) false _ ?side1 ?side2 A25.out).mono ?_
              (case side1 => repeat (first | exact (Kd.R_reads' HO_4.out).2.2 | (with_reducible refine Kd.C_alloc ?_ _) | (with_reducible refine Kd.C_drewN ?_ _) | (with_reducible refine Kd.C_drew ?_)))
              (case side2 => exact (Kd.R_reads' HO_4.out).2.1)
              rintro e w' ⟨rfl,⟨nd,rfl⟩⟩
              refine ⟨_,rfl,?_⟩
              refine hK.out _ _ ⟨bl BK174 0,bl BK174 1,bl BK174 2,bl BK174 3,bl BK169 0,bl BK169 1,bl BK169 2,at3_cell0 (od) (od) (bl BK169 0) (bl BK169 1) (bl BK169 2)⟩ (fun hHeld => ?_)
              clear hK K
              refine norm_ (a':=?_) ?_ ?_
              rotate_left
              ·show Act.put _ (some 72) _ = _
               simp only [Act.put,setIfInBounds_toArray,set_cons_zero,set_cons_succ,i64_w,i32_w]
               rfl
              refine pV_ 25 73 (bm 26 67108863) HT_.out ?_
              refine done_ (done_of HT_.out (by kernel_rfl)) ?_
              obtain ⟨hcz50_0,hcz50_1,hcz50_2,hcz50_3⟩ := cl4 BK174.out
              obtain ⟨hfz50_0,hfz50_1,hfz50_2,hfz50_3⟩ := fz4 BK174.out
              have hia51 := ia_dyn0 (P:=Tryz.prog) (t:=24) (e:=3) Tryz.underlying24 (by kernel_rfl) (by kernel_rfl) gb169 ((rd_T64 l0_2 x5_2).f0) (od) (od)
              obtain ⟨hcz52_0,hcz52_1,hcz52_2⟩ := cl3 BK169.out
              obtain ⟨hfz52_0,hfz52_1,hfz52_2⟩ := fz3 BK169.out
              have hca53 : w47.cell? ⟨gb169,((rd_T64 l0_2 x5_2).f0).toNat,none⟩ = some (.int .i64 (at3 ((rd_T64 l0_2 x5_2).f0) x170000_2 x170001_2 x170002_2)) := at3_cell0 (od) (od) (bl BK169 0) (bl BK169 1) (bl BK169 2)
              have hfa53 := blk_frozen BK169.out (((rd_T64 l0_2 x5_2).f0).toNat)
              try go_wp2_with (first | ((with_reducible refine gate_builtin (b:=.append) (xs := #[.tmp 79,.tmp 82]) rfl ?_); (try (refine gate_guard (by rfl) ?_; dsimp only)); at_builtin; refine Kd.R_append Kd.string (w0 := w) w.heap.size rfl (.tmp 79) (.tmp 82) 27 9 (.string ⟨#[]⟩) 16 rfl Tryz.underlying27 info9 rfl (by decide) (by omega) (.slice Ao49 x4_2.length co49) x4_2 ((rd_T64 l0_2 x5_2).f3) [.string ((rd_T64 l0_2 x5_2).f3)] (fun _ => True) (fun _ => False) rfl (by first | (go_simp; done) | (go_simp; rfl)) ?aP (fun _ hk => hk.elim) ?aF ?aO ?aB ?aS ?aL ?_; (case aP => exact rfl); (case aB => exact bA); (case aF => exact (fun _ _ => trivial)); (case aO => exact (by (with_reducible repeat (first | apply Kd.R_alloc | apply Kd.R_drewN | apply Kd.R_drew)); exact Kd.R_mono (Kd.R_far (p:=⟨gb169,((rd_T64 l0_2 x5_2).f0).toNat,none⟩) (Kd.R_types HO_4.out BK169.out (by decide)) (fun _ hk => hk.2) (.int .i64 ((rd_T64 l0_2 x5_2).f2))) (fun _ hk => trivial))); (case aS => exact (below_size bA)); (case aL => have := LMc38.out; omega); intro v178 w54 ho hb hg hat; rw [← Ny177.out] at ho; have n0_ := Aside0.mk (bh BK166.out hg (Kd.R_ne HO_4.out BK166.out (by decide))); have n1_ := Aside0.mk (blk_grown (g:=gb169) (o:=.cells #[.int .i64 (if ((rd_T64 l0_2 x5_2).f0) = 0 then (rd_T64 l0_2 x5_2).f2 else x170000_2),.int .i64 (if ((rd_T64 l0_2 x5_2).f0) = 1 then (rd_T64 l0_2 x5_2).f2 else x170001_2),.int .i64 (if ((rd_T64 l0_2 x5_2).f0) = 2 then (rd_T64 l0_2 x5_2).f2 else x170002_2)] 24 (0,0)) (by (with_reducible repeat (first | refine blk_drewN ?_ _ | refine blk_drew ?_ | refine blk_alloc ?_ _)); refine blk_put (cs := #[.int .i64 x170000_2,.int .i64 x170001_2,.int .i64 x170002_2]) ?_ (((rd_T64 l0_2 x5_2).f0).toNat) _ (at3_put (od) (od)); (with_reducible repeat (first | refine blk_drewN ?_ _ | refine blk_drew ?_ | refine blk_alloc ?_ _)); exact BK169.out) hg (Kd.R_ne HO_4.out BK169.out (by decide))); have n2_ := Aside0.mk (bh BK174.out hg (Kd.R_ne HO_4.out BK174.out (by decide))); have n3_ := Aside0.mk (hb); have n4_ := Aside0.mk (ho); clear BK166 BK169 BK174 HB HO_4; have BK166 := n0_; have BK169 := n1_; have BK174 := n2_; have HB := n3_; have HO179 := n4_; clear n0_ n1_ n2_ n3_ n4_; clear ho hb hg hat))
              go_roundg k2
              case measure => have := HJ1.out; have := HK2.out; omega
              case rel => exact ⟨(y177),(wrap64 (x5_2 + 1)),((if ((rd_T64 l0_2 x5_2).f0) = 0 then (rd_T64 l0_2 x5_2).f2 else x170000_2)),((if ((rd_T64 l0_2 x5_2).f0) = 1 then (rd_T64 l0_2 x5_2).f2 else x170001_2)),((if ((rd_T64 l0_2 x5_2).f0) = 2 then (rd_T64 l0_2 x5_2).f2 else x170002_2)),(by first | rfl | (simp; done) | (simp [*]; done)),H',⟨by have := HJ1.out; have := HK2.out; omega⟩,⟨rA HO179.out⟩,⟨kA BK166.out⟩,⟨kA BK169.out⟩,⟨bA⟩⟩
             ·rw [if_neg c38] at H
              exact absurd H (by simp)
           ·rw [if_neg c24] at H
            have c24b0 : (((rd_T64 l0_2 x5_2).f1) == (at3 ((rd_T64 l0_2 x5_2).f0) x170000_2 x170001_2 x170002_2)) = false := beq_eq_false_iff_ne.mpr c24
            have c24b1 : (((rd_T64 l0_2 x5_2).f1) != (at3 ((rd_T64 l0_2 x5_2).f0) x170000_2 x170001_2 x170002_2)) = true := bne_iff_ne.mpr c24
            obtain rfl := Option.some.inj H
            have hnb55 := NB166_169.out
            have hnc55 := NB169_166.out
            obtain ⟨hcz56_0,hcz56_1,hcz56_2,hcz56_3,hcz56_4,hcz56_5,hcz56_6,hcz56_7,hcz56_8,hcz56_9⟩ := cl10 BK166.out
            obtain ⟨hfz56_0,hfz56_1,hfz56_2,hfz56_3,hfz56_4,hfz56_5,hfz56_6,hfz56_7,hfz56_8,hfz56_9⟩ := fz10 BK166.out
            have p173 : 0 ≤ (x5_2 : Int) := od
            have q173 : x5_2 < (l0_2.length : Int) := od
            obtain ⟨ad173,e173,hx173_0,hx173_1,hx173_2,hx173_3⟩ := at_T64 HR0_2.out x5_2 p173 q173
            cases e173
            replace hx173_0 := cb HB.out hx173_0
            replace hx173_1 := cb HB.out hx173_1
            replace hx173_2 := cb HB.out hx173_2
            replace hx173_3 := cb HB.out hx173_3
            replace p173 := eq_true p173
            replace q173 := eq_true q173
            try go_wp2_with (first | ((with_reducible refine gate_dst (N:=6) rfl ?_); (try (refine gate_guard (by rfl) ?_; dsimp only)); refine box_event ?hg (N:=6) ?hd (cs := #[.int .i64 0,.int .i64 0,.int .i64 0,.string (⟨#[]⟩ : ByteArray)]) (t:=64) ?hr ?_; (case hd => rfl); (case hg => rfl); (case hr => first | (go_simp; done) | (go_simp; rfl)); intro gb174 hg w57 hbox hb; have n0_ := Aside0.mk (Kd.R_below (rA HO_4.out) hb); have n1_ := Aside0.mk (bb BK166.out hb); have n2_ := Aside0.mk (bb BK169.out hb); have n3_ := Aside0.mk (below_step bA hb); have n4_ := Aside0.mk (hbox); have n5_ := Aside0.mk ((gw hg : w.heap.size ≤ gb174)); have n6_ := Aside0.mk ((gw hg : w.heap.size ≤ gb174)); have n7_ := Aside0.mk ((nl hg BK166.out)); have n8_ := Aside0.mk ((ng hg BK166.out)); have n9_ := Aside0.mk ((nl hg BK169.out)); have n10_ := Aside0.mk ((ng hg BK169.out)); clear HO_4 BK166 BK169 HB; have HO_4 := n0_; have BK166 := n1_; have BK169 := n2_; have HB := n3_; have BK174 := n4_; have GW174 := n5_; have GE174 := n6_; have NB166_174 := n7_; have NB174_166 := n8_; have NB169_174 := n9_; have NB174_169 := n10_; clear n0_ n1_ n2_ n3_ n4_ n5_ n6_ n7_ n8_ n9_ n10_; clear hb hbox hg; have hnb58 := NB174_166.out; have hnc58 := NB166_174.out; have hnb59 := NB174_169.out; have hnc59 := NB169_174.out; obtain ⟨hcz60_0,hcz60_1,hcz60_2,hcz60_3⟩ := cl4 BK174.out; obtain ⟨hfz60_0,hfz60_1,hfz60_2,hfz60_3⟩ := fz4 BK174.out))
            have n0_ : Aside0 (Kd.R Kd.string 9 ((((w57.setCell ⟨gb174,0,none⟩ (.int .i64 ((rd_T64 l0_2 x5_2).f0))).setCell ⟨gb174,1,none⟩ (.int .i64 ((rd_T64 l0_2 x5_2).f1))).setCell ⟨gb174,2,none⟩ (.int .i64 ((rd_T64 l0_2 x5_2).f2))).setCell ⟨gb174,3,none⟩ (.string ((rd_T64 l0_2 x5_2).f3))) w.heap.size (fun _ => True) u4 x4_2) := ⟨by (with_reducible repeat (first | apply Kd.R_alloc | apply Kd.R_drewN | apply Kd.R_drew)); exact Kd.R_mono (Kd.R_far (p:=⟨gb174,3,none⟩) (Kd.R_far (p:=⟨gb174,2,none⟩) (Kd.R_far (p:=⟨gb174,1,none⟩) (Kd.R_far (p:=⟨gb174,0,none⟩) (Kd.R_types HO_4.out BK174.out (by decide)) (fun _ hk => hk.2) (.int .i64 ((rd_T64 l0_2 x5_2).f0))) (fun _ hk => hk.2) (.int .i64 ((rd_T64 l0_2 x5_2).f1))) (fun _ hk => hk.2) (.int .i64 ((rd_T64 l0_2 x5_2).f2))) (fun _ hk => hk.2) (.string ((rd_T64 l0_2 x5_2).f3))) (fun _ hk => trivial)⟩
            have n1_ : Aside0 (((((w57.setCell ⟨gb174,0,none⟩ (.int .i64 ((rd_T64 l0_2 x5_2).f0))).setCell ⟨gb174,1,none⟩ (.int .i64 ((rd_T64 l0_2 x5_2).f1))).setCell ⟨gb174,2,none⟩ (.int .i64 ((rd_T64 l0_2 x5_2).f2))).setCell ⟨gb174,3,none⟩ (.string ((rd_T64 l0_2 x5_2).f3))).heap[gb166]? = some (.cells #[.int .i64 a0_0,.int .i64 a0_1,.slice (some ad173) l0_2.length c0_2,.slice A0_3 l0_3.length c0_3,.int .i64 a0_4,.int .i64 a0_5,.int .i64 a0_6,.int .i64 a0_7,.int .i64 a0_8,.int .i64 a0_9] 35 (0,0))) := ⟨kF BK166.out⟩
            have n2_ : Aside0 (((((w57.setCell ⟨gb174,0,none⟩ (.int .i64 ((rd_T64 l0_2 x5_2).f0))).setCell ⟨gb174,1,none⟩ (.int .i64 ((rd_T64 l0_2 x5_2).f1))).setCell ⟨gb174,2,none⟩ (.int .i64 ((rd_T64 l0_2 x5_2).f2))).setCell ⟨gb174,3,none⟩ (.string ((rd_T64 l0_2 x5_2).f3))).heap[gb169]? = some (.cells #[.int .i64 x170000_2,.int .i64 x170001_2,.int .i64 x170002_2] 24 (0,0))) := ⟨kF BK169.out⟩
            have n3_ : Aside0 (((((w57.setCell ⟨gb174,0,none⟩ (.int .i64 ((rd_T64 l0_2 x5_2).f0))).setCell ⟨gb174,1,none⟩ (.int .i64 ((rd_T64 l0_2 x5_2).f1))).setCell ⟨gb174,2,none⟩ (.int .i64 ((rd_T64 l0_2 x5_2).f2))).setCell ⟨gb174,3,none⟩ (.string ((rd_T64 l0_2 x5_2).f3))).heap[gb174]? = some (.cells #[.int .i64 ((rd_T64 l0_2 x5_2).f0),.int .i64 ((rd_T64 l0_2 x5_2).f1),.int .i64 ((rd_T64 l0_2 x5_2).f2),.string ((rd_T64 l0_2 x5_2).f3)] 64 (0,0))) := ⟨by (with_reducible repeat (first | refine blk_drewN ?_ _ | refine blk_drew ?_ | refine blk_alloc ?_ _)); refine blk_put (cs := #[.int .i64 ((rd_T64 l0_2 x5_2).f0),.int .i64 ((rd_T64 l0_2 x5_2).f1),.int .i64 ((rd_T64 l0_2 x5_2).f2),.string (⟨#[]⟩ : ByteArray)]) ?_ 3 _ rfl; (with_reducible repeat (first | refine blk_drewN ?_ _ | refine blk_drew ?_ | refine blk_alloc ?_ _)); refine blk_put (cs := #[.int .i64 ((rd_T64 l0_2 x5_2).f0),.int .i64 ((rd_T64 l0_2 x5_2).f1),.int .i64 0,.string (⟨#[]⟩ : ByteArray)]) ?_ 2 _ rfl; (with_reducible repeat (first | refine blk_drewN ?_ _ | refine blk_drew ?_ | refine blk_alloc ?_ _)); refine blk_put (cs := #[.int .i64 ((rd_T64 l0_2 x5_2).f0),.int .i64 0,.int .i64 0,.string (⟨#[]⟩ : ByteArray)]) ?_ 1 _ rfl; (with_reducible repeat (first | refine blk_drewN ?_ _ | refine blk_drew ?_ | refine blk_alloc ?_ _)); refine blk_put (cs := #[.int .i64 0,.int .i64 0,.int .i64 0,.string (⟨#[]⟩ : ByteArray)]) ?_ 0 _ rfl; (with_reducible repeat (first | refine blk_drewN ?_ _ | refine blk_drew ?_ | refine blk_alloc ?_ _)); exact BK174.out⟩
            have n4_ : Aside0 (Below w.heap.size w ((((w57.setCell ⟨gb174,0,none⟩ (.int .i64 ((rd_T64 l0_2 x5_2).f0))).setCell ⟨gb174,1,none⟩ (.int .i64 ((rd_T64 l0_2 x5_2).f1))).setCell ⟨gb174,2,none⟩ (.int .i64 ((rd_T64 l0_2 x5_2).f2))).setCell ⟨gb174,3,none⟩ (.string ((rd_T64 l0_2 x5_2).f3)))) := ⟨bA⟩
            (try clear HO_4)
            (try clear BK166)
            (try clear BK169)
            (try clear BK174)
            (try clear HB)
            generalize ((((w57.setCell ⟨gb174,0,none⟩ (.int .i64 ((rd_T64 l0_2 x5_2).f0))).setCell ⟨gb174,1,none⟩ (.int .i64 ((rd_T64 l0_2 x5_2).f1))).setCell ⟨gb174,2,none⟩ (.int .i64 ((rd_T64 l0_2 x5_2).f2))).setCell ⟨gb174,3,none⟩ (.string ((rd_T64 l0_2 x5_2).f3))) = w61 at n0_ n1_ n2_ n3_ n4_ ⊢
            have HO_4 := n0_
            have BK166 := n1_
            have BK169 := n2_
            have BK174 := n3_
            have HB := n4_
            clear n0_ n1_ n2_ n3_ n4_
            have n0_ := Aside0.mk (Kd.R_drew HO_4.out)
            have n1_ := Aside0.mk (blk_drew BK166.out)
            have n2_ := Aside0.mk (blk_drew BK169.out)
            have n3_ := Aside0.mk (blk_drew BK174.out)
            have n4_ := Aside0.mk (below_drew1 HB.out)
            clear HO_4 BK166 BK169 BK174 HB
            have HO_4 := n0_
            have BK166 := n1_
            have BK169 := n2_
            have BK174 := n3_
            have HB := n4_
            clear n0_ n1_ n2_ n3_ n4_
            refine start_ (n:=26) (S:=fun w' => w'.cell? ⟨gb174,0,none⟩ = some (.int .i64 ((rd_T64 l0_2 x5_2).f0)) ∧ w'.cell? ⟨gb174,1,none⟩ = some (.int .i64 ((rd_T64 l0_2 x5_2).f1)) ∧ w'.cell? ⟨gb174,2,none⟩ = some (.int .i64 ((rd_T64 l0_2 x5_2).f2)) ∧ w'.cell? ⟨gb174,3,none⟩ = some (.string ((rd_T64 l0_2 x5_2).f3)) ∧ w'.cell? ⟨gb169,0,none⟩ = some (.int .i64 x170000_2) ∧ w'.cell? ⟨gb169,1,none⟩ = some (.int .i64 x170001_2) ∧ w'.cell? ⟨gb169,2,none⟩ = some (.int .i64 x170002_2) ∧ w'.cell? ⟨gb169,((rd_T64 l0_2 x5_2).f0).toNat,none⟩ = some (.int .i64 (at3 ((rd_T64 l0_2 x5_2).f0) x170000_2 x170001_2 x170002_2))) (ds := []) (bm 26 0) (by kernel_rfl) rfl rfl ⟨bl BK174 0,bl BK174 1,bl BK174 2,bl BK174 3,bl BK169 0,bl BK169 1,bl BK169 2,at3_cell0 (od) (od) (bl BK169 0) (bl BK169 1) (bl BK169 2)⟩ (fun hHeld => ?_); refine with_tabW spec_StateOK.tab9 spec_StateOK.bits9 (fun HT_ HW_ => ?_)
            generalize w61.drew = w62 at HO_4 BK166 BK169 BK174 HB hHeld ⊢
            refine pV_ 0 48 (bm 26 1) HT_.out ?_
            refine pV_ 2 50 (bm 26 5) HT_.out ?_
            refine pV_ 4 52 (bm 26 21) HT_.out ?_
            refine pV_ 6 54 (bm 26 85) HT_.out ?_
            refine take_ (i:=1) (N:=some 49) (v:=?_) (a':=?_) (bm 26 87) rfl rfl (take_ofW HT_.out HW_.out (by kernel_rfl)) (fun _ _ _ h => h) (Or.inl ⟨by rfl,?_⟩) hHeld ?_ ?_
            rotate_left
            ·rintro w' ⟨s0,s1,s2,s3,s4,s5,s6,s7⟩
             go_simp
             with_reducible rfl
            rotate_left
            ·simp only [Act.put,setIfInBounds_toArray,set_cons_zero,set_cons_succ,i64_w,i32_w]
             rfl
            refine take_ (i:=3) (N:=some 51) (v:=?_) (a':=?_) (bm 26 95) rfl rfl (take_ofW HT_.out HW_.out (by kernel_rfl)) (fun _ _ _ h => h) (Or.inl ⟨by rfl,?_⟩) hHeld ?_ ?_
            rotate_left
            ·rintro w' ⟨s0,s1,s2,s3,s4,s5,s6,s7⟩
             go_simp
             with_reducible rfl
            rotate_left
            ·simp only [Act.put,setIfInBounds_toArray,set_cons_zero,set_cons_succ,i64_w,i32_w]
             rfl
            refine take_ (i:=5) (N:=some 53) (v:=?_) (a':=?_) (bm 26 127) rfl rfl (take_ofW HT_.out HW_.out (by kernel_rfl)) (fun _ _ _ h => h) (Or.inl ⟨by rfl,?_⟩) hHeld ?_ ?_
            rotate_left
            ·rintro w' ⟨s0,s1,s2,s3,s4,s5,s6,s7⟩
             go_simp
             with_reducible rfl
            rotate_left
            ·simp only [Act.put,setIfInBounds_toArray,set_cons_zero,set_cons_succ,i64_w,i32_w]
             rfl
            refine take_ (i:=7) (N:=some 55) (v:=?_) (a':=?_) (bm 26 255) rfl rfl (take_ofW HT_.out HW_.out (by kernel_rfl)) (fun _ _ _ h => h) (Or.inl ⟨by rfl,?_⟩) hHeld ?_ ?_
            rotate_left
            ·rintro w' ⟨s0,s1,s2,s3,s4,s5,s6,s7⟩
             go_simp
             with_reducible rfl
            rotate_left
            ·simp only [Act.put,setIfInBounds_toArray,set_cons_zero,set_cons_succ,i64_w,i32_w]
             rfl
            refine pV_ 8 56 (bm 26 511) HT_.out ?_
            refine one_ (i:=9) (N:=some 57) (bm 26 1023) rfl rfl (one_of HT_.out (by kernel_rfl)) (by decide) (fun K hK => ?_)
            refine goes_ Tryz.func35 (by kernel_rfl) rfl #[.agg #[.int .i64 0,.int .i64 0,.int .i64 ((rd_T64 l0_2 x5_2).f0),.int .i64 ((rd_T64 l0_2 x5_2).f1),.int .i64 ((rd_T64 l0_2 x5_2).f2),.string ((rd_T64 l0_2 x5_2).f3)],.int .i64 0] (by rfl) rfl rfl mA ?_
            with_reducible refine (spec_l06Tiered.calls k2 0 0 ((rd_T64 l0_2 x5_2).f0) ((rd_T64 l0_2 x5_2).f1) ((rd_T64 l0_2 x5_2).f2) ((rd_T64 l0_2 x5_2).f3) 0 true _ A20.out).mono ?_
            rintro e w63 ⟨rfl,hb⟩
            refine ⟨_,rfl,?_⟩
            have n0_ := Aside0.mk (Kd.R_below (rA HO_4.out) hb)
            have n1_ := Aside0.mk (bb BK166.out hb)
            have n2_ := Aside0.mk (bb BK169.out hb)
            have n3_ := Aside0.mk (bb BK174.out hb)
            have n4_ := Aside0.mk (below_step bA hb)
            clear HO_4 BK166 BK169 BK174 HB
            have HO_4 := n0_
            have BK166 := n1_
            have BK169 := n2_
            have BK174 := n3_
            have HB := n4_
            clear n0_ n1_ n2_ n3_ n4_
            (try clear hb)
            (try clear hb2)
            (try clear hk)
            (try clear hi)
            have hia64 := ia_dyn0 (P:=Tryz.prog) (t:=24) (e:=3) Tryz.underlying24 (by kernel_rfl) (by kernel_rfl) gb169 ((rd_T64 l0_2 x5_2).f0) (od) (od)
            refine hK.out _ _ ⟨bl BK174 0,bl BK174 1,bl BK174 2,bl BK174 3,bl BK169 0,bl BK169 1,bl BK169 2,at3_cell0 (od) (od) (bl BK169 0) (bl BK169 1) (bl BK169 2)⟩ (fun hHeld => ?_)
            clear hK K
            refine norm_ (a':=?_) ?_ ?_
            rotate_left
            ·show Act.put _ (some 57) _ = _
             simp only [Act.put,setIfInBounds_toArray,set_cons_zero,set_cons_succ,i64_w,i32_w]
             rfl
            refine pV_ 10 58 (bm 26 2047) HT_.out ?_
            refine pV_ 11 59 (bm 26 4095) HT_.out ?_
            refine pV_ 12 60 (bm 26 8191) HT_.out ?_
            refine pV_ 14 62 (bm 26 24575) HT_.out ?_
            refine take_ (i:=13) (N:=some 61) (v:=?_) (a':=?_) (bm 26 32767) rfl rfl (take_ofW HT_.out HW_.out (by kernel_rfl)) (fun _ _ _ h => h) (Or.inl ⟨by rfl,?_⟩) hHeld ?_ ?_
            rotate_left
            ·rintro w' ⟨s0,s1,s2,s3,s4,s5,s6,s7⟩
             go_simp
             with_reducible rfl
            rotate_left
            ·simp only [Act.put,setIfInBounds_toArray,set_cons_zero,set_cons_succ,i64_w,i32_w]
             rfl
            refine take_ (i:=15) (N:=some 63) (v:=?_) (a':=?_) (bm 26 65535) rfl rfl (take_ofW HT_.out HW_.out (by kernel_rfl)) (fun _ _ _ h => h) (Or.inl ⟨by rfl,?_⟩) hHeld ?_ ?_
            rotate_left
            ·rintro w' ⟨s0,s1,s2,s3,s4,s5,s6,s7⟩
             go_simp
             with_reducible rfl
            rotate_left
            ·simp only [Act.put,setIfInBounds_toArray,set_cons_zero,set_cons_succ,i64_w,i32_w]
             rfl
            refine pV_ 16 64 (bm 26 131071) HT_.out ?_
            refine take_ (i:=17) (N:=some 65) (v:=?_) (a':=?_) (bm 26 262143) rfl rfl (take_ofW HT_.out HW_.out (by kernel_rfl)) (fun _ _ _ h => h) (Or.inl ⟨by rfl,?_⟩) hHeld ?_ ?_
            rotate_left
            ·rintro w' ⟨s0,s1,s2,s3,s4,s5,s6,s7⟩
             go_simp
             with_reducible rfl
            rotate_left
            ·simp only [Act.put,setIfInBounds_toArray,set_cons_zero,set_cons_succ,i64_w,i32_w]
             rfl
            refine pV_ 18 66 (bm 26 524287) HT_.out ?_
            refine pV_ 19 67 (bm 26 1048575) HT_.out ?_
            refine pV_ 20 68 (bm 26 2097151) HT_.out ?_
            refine pU_ 21 69 (bm 26 4194303) HT_.out ?_
            refine pU_ 22 70 (bm 26 8388607) HT_.out ?_
            refine pU_ 23 71 (bm 26 16777215) HT_.out ?_
            refine pU_ 24 72 (bm 26 33554431) HT_.out ?_
            refine pV_ 25 73 (bm 26 67108863) HT_.out ?_
            refine done_ (done_of HT_.out (by kernel_rfl)) ?_
            try go_wp2
            go_ret
            exact ⟨by first | rfl | (simp only [i64_w,i32_w] <;> rfl) | (simp [errW_none,errW_some] <;> rfl) | (simp [*,errW_none,errW_some] <;> rfl),bA⟩
          ·rw [if_neg c23] at H
           exact absurd H (by simp)
         ·rw [if_neg c22] at H
          exact absurd H (by simp)
        ·replace c21 := Bool.eq_false_iff.mpr c21
         subst c21
         rw [if_neg (show ¬ (false = true) by decide)] at H
         obtain rfl := Option.some.inj H
         have hnb65 := NB166_169.out
         have hnc65 := NB169_166.out
         obtain ⟨hcz66_0,hcz66_1,hcz66_2,hcz66_3,hcz66_4,hcz66_5,hcz66_6,hcz66_7,hcz66_8,hcz66_9⟩ := cl10 BK166.out
         obtain ⟨hfz66_0,hfz66_1,hfz66_2,hfz66_3,hfz66_4,hfz66_5,hfz66_6,hfz66_7,hfz66_8,hfz66_9⟩ := fz10 BK166.out
         have p173 : 0 ≤ (x5_2 : Int) := od
         have q173 : x5_2 < (l0_2.length : Int) := od
         obtain ⟨ad173,e173,hx173_0,hx173_1,hx173_2,hx173_3⟩ := at_T64 HR0_2.out x5_2 p173 q173
         cases e173
         replace hx173_0 := cb HB.out hx173_0
         replace hx173_1 := cb HB.out hx173_1
         replace hx173_2 := cb HB.out hx173_2
         replace hx173_3 := cb HB.out hx173_3
         replace p173 := eq_true p173
         replace q173 := eq_true q173
         try go_wp2_with (first | ((with_reducible refine gate_dst (N:=6) rfl ?_); (try (refine gate_guard (by rfl) ?_; dsimp only)); refine box_event ?hg (N:=6) ?hd (cs := #[.int .i64 0,.int .i64 0,.int .i64 0,.string (⟨#[]⟩ : ByteArray)]) (t:=64) ?hr ?_; (case hd => rfl); (case hg => rfl); (case hr => first | (go_simp; done) | (go_simp; rfl)); intro gb174 hg w67 hbox hb; have n0_ := Aside0.mk (Kd.R_below (rA HO_4.out) hb); have n1_ := Aside0.mk (bb BK166.out hb); have n2_ := Aside0.mk (bb BK169.out hb); have n3_ := Aside0.mk (below_step bA hb); have n4_ := Aside0.mk (hbox); have n5_ := Aside0.mk ((gw hg : w.heap.size ≤ gb174)); have n6_ := Aside0.mk ((gw hg : w.heap.size ≤ gb174)); have n7_ := Aside0.mk ((nl hg BK166.out)); have n8_ := Aside0.mk ((ng hg BK166.out)); have n9_ := Aside0.mk ((nl hg BK169.out)); have n10_ := Aside0.mk ((ng hg BK169.out)); clear HO_4 BK166 BK169 HB; have HO_4 := n0_; have BK166 := n1_; have BK169 := n2_; have HB := n3_; have BK174 := n4_; have GW174 := n5_; have GE174 := n6_; have NB166_174 := n7_; have NB174_166 := n8_; have NB169_174 := n9_; have NB174_169 := n10_; clear n0_ n1_ n2_ n3_ n4_ n5_ n6_ n7_ n8_ n9_ n10_; clear hb hbox hg; have hnb68 := NB174_166.out; have hnc68 := NB166_174.out; have hnb69 := NB174_169.out; have hnc69 := NB169_174.out; obtain ⟨hcz70_0,hcz70_1,hcz70_2,hcz70_3⟩ := cl4 BK174.out; obtain ⟨hfz70_0,hfz70_1,hfz70_2,hfz70_3⟩ := fz4 BK174.out))
         have n0_ : Aside0 (Kd.R Kd.string 9 ((((w67.setCell ⟨gb174,0,none⟩ (.int .i64 ((rd_T64 l0_2 x5_2).f0))).setCell ⟨gb174,1,none⟩ (.int .i64 ((rd_T64 l0_2 x5_2).f1))).setCell ⟨gb174,2,none⟩ (.int .i64 ((rd_T64 l0_2 x5_2).f2))).setCell ⟨gb174,3,none⟩ (.string ((rd_T64 l0_2 x5_2).f3))) w.heap.size (fun _ => True) u4 x4_2) := ⟨by (with_reducible repeat (first | apply Kd.R_alloc | apply Kd.R_drewN | apply Kd.R_drew)); exact Kd.R_mono (Kd.R_far (p:=⟨gb174,3,none⟩) (Kd.R_far (p:=⟨gb174,2,none⟩) (Kd.R_far (p:=⟨gb174,1,none⟩) (Kd.R_far (p:=⟨gb174,0,none⟩) (Kd.R_types HO_4.out BK174.out (by decide)) (fun _ hk => hk.2) (.int .i64 ((rd_T64 l0_2 x5_2).f0))) (fun _ hk => hk.2) (.int .i64 ((rd_T64 l0_2 x5_2).f1))) (fun _ hk => hk.2) (.int .i64 ((rd_T64 l0_2 x5_2).f2))) (fun _ hk => hk.2) (.string ((rd_T64 l0_2 x5_2).f3))) (fun _ hk => trivial)⟩
         have n1_ : Aside0 (((((w67.setCell ⟨gb174,0,none⟩ (.int .i64 ((rd_T64 l0_2 x5_2).f0))).setCell ⟨gb174,1,none⟩ (.int .i64 ((rd_T64 l0_2 x5_2).f1))).setCell ⟨gb174,2,none⟩ (.int .i64 ((rd_T64 l0_2 x5_2).f2))).setCell ⟨gb174,3,none⟩ (.string ((rd_T64 l0_2 x5_2).f3))).heap[gb166]? = some (.cells #[.int .i64 a0_0,.int .i64 a0_1,.slice (some ad173) l0_2.length c0_2,.slice A0_3 l0_3.length c0_3,.int .i64 a0_4,.int .i64 a0_5,.int .i64 a0_6,.int .i64 a0_7,.int .i64 a0_8,.int .i64 a0_9] 35 (0,0))) := ⟨kF BK166.out⟩
         have n2_ : Aside0 (((((w67.setCell ⟨gb174,0,none⟩ (.int .i64 ((rd_T64 l0_2 x5_2).f0))).setCell ⟨gb174,1,none⟩ (.int .i64 ((rd_T64 l0_2 x5_2).f1))).setCell ⟨gb174,2,none⟩ (.int .i64 ((rd_T64 l0_2 x5_2).f2))).setCell ⟨gb174,3,none⟩ (.string ((rd_T64 l0_2 x5_2).f3))).heap[gb169]? = some (.cells #[.int .i64 x170000_2,.int .i64 x170001_2,.int .i64 x170002_2] 24 (0,0))) := ⟨kF BK169.out⟩
         have n3_ : Aside0 (((((w67.setCell ⟨gb174,0,none⟩ (.int .i64 ((rd_T64 l0_2 x5_2).f0))).setCell ⟨gb174,1,none⟩ (.int .i64 ((rd_T64 l0_2 x5_2).f1))).setCell ⟨gb174,2,none⟩ (.int .i64 ((rd_T64 l0_2 x5_2).f2))).setCell ⟨gb174,3,none⟩ (.string ((rd_T64 l0_2 x5_2).f3))).heap[gb174]? = some (.cells #[.int .i64 ((rd_T64 l0_2 x5_2).f0),.int .i64 ((rd_T64 l0_2 x5_2).f1),.int .i64 ((rd_T64 l0_2 x5_2).f2),.string ((rd_T64 l0_2 x5_2).f3)] 64 (0,0))) := ⟨by (with_reducible repeat (first | refine blk_drewN ?_ _ | refine blk_drew ?_ | refine blk_alloc ?_ _)); refine blk_put (cs := #[.int .i64 ((rd_T64 l0_2 x5_2).f0),.int .i64 ((rd_T64 l0_2 x5_2).f1),.int .i64 ((rd_T64 l0_2 x5_2).f2),.string (⟨#[]⟩ : ByteArray)]) ?_ 3 _ rfl; (with_reducible repeat (first | refine blk_drewN ?_ _ | refine blk_drew ?_ | refine blk_alloc ?_ _)); refine blk_put (cs := #[.int .i64 ((rd_T64 l0_2 x5_2).f0),.int .i64 ((rd_T64 l0_2 x5_2).f1),.int .i64 0,.string (⟨#[]⟩ : ByteArray)]) ?_ 2 _ rfl; (with_reducible repeat (first | refine blk_drewN ?_ _ | refine blk_drew ?_ | refine blk_alloc ?_ _)); refine blk_put (cs := #[.int .i64 ((rd_T64 l0_2 x5_2).f0),.int .i64 0,.int .i64 0,.string (⟨#[]⟩ : ByteArray)]) ?_ 1 _ rfl; (with_reducible repeat (first | refine blk_drewN ?_ _ | refine blk_drew ?_ | refine blk_alloc ?_ _)); refine blk_put (cs := #[.int .i64 0,.int .i64 0,.int .i64 0,.string (⟨#[]⟩ : ByteArray)]) ?_ 0 _ rfl; (with_reducible repeat (first | refine blk_drewN ?_ _ | refine blk_drew ?_ | refine blk_alloc ?_ _)); exact BK174.out⟩
         have n4_ : Aside0 (Below w.heap.size w ((((w67.setCell ⟨gb174,0,none⟩ (.int .i64 ((rd_T64 l0_2 x5_2).f0))).setCell ⟨gb174,1,none⟩ (.int .i64 ((rd_T64 l0_2 x5_2).f1))).setCell ⟨gb174,2,none⟩ (.int .i64 ((rd_T64 l0_2 x5_2).f2))).setCell ⟨gb174,3,none⟩ (.string ((rd_T64 l0_2 x5_2).f3)))) := ⟨bA⟩
         (try clear HO_4)
         (try clear BK166)
         (try clear BK169)
         (try clear BK174)
         (try clear HB)
         generalize ((((w67.setCell ⟨gb174,0,none⟩ (.int .i64 ((rd_T64 l0_2 x5_2).f0))).setCell ⟨gb174,1,none⟩ (.int .i64 ((rd_T64 l0_2 x5_2).f1))).setCell ⟨gb174,2,none⟩ (.int .i64 ((rd_T64 l0_2 x5_2).f2))).setCell ⟨gb174,3,none⟩ (.string ((rd_T64 l0_2 x5_2).f3))) = w71 at n0_ n1_ n2_ n3_ n4_ ⊢
         have HO_4 := n0_
         have BK166 := n1_
         have BK169 := n2_
         have BK174 := n3_
         have HB := n4_
         clear n0_ n1_ n2_ n3_ n4_
         have n0_ := Aside0.mk (Kd.R_drew HO_4.out)
         have n1_ := Aside0.mk (blk_drew BK166.out)
         have n2_ := Aside0.mk (blk_drew BK169.out)
         have n3_ := Aside0.mk (blk_drew BK174.out)
         have n4_ := Aside0.mk (below_drew1 HB.out)
         clear HO_4 BK166 BK169 BK174 HB
         have HO_4 := n0_
         have BK166 := n1_
         have BK169 := n2_
         have BK174 := n3_
         have HB := n4_
         clear n0_ n1_ n2_ n3_ n4_
         refine start_ (n:=26) (S:=fun w' => w'.cell? ⟨gb174,0,none⟩ = some (.int .i64 ((rd_T64 l0_2 x5_2).f0)) ∧ w'.cell? ⟨gb174,1,none⟩ = some (.int .i64 ((rd_T64 l0_2 x5_2).f1)) ∧ w'.cell? ⟨gb174,2,none⟩ = some (.int .i64 ((rd_T64 l0_2 x5_2).f2)) ∧ w'.cell? ⟨gb174,3,none⟩ = some (.string ((rd_T64 l0_2 x5_2).f3))) (ds := []) (bm 26 0) (by kernel_rfl) rfl rfl ⟨bl BK174 0,bl BK174 1,bl BK174 2,bl BK174 3⟩ (fun hHeld => ?_); refine with_tabW spec_StateOK.tab9 spec_StateOK.bits9 (fun HT_ HW_ => ?_)
         generalize w71.drew = w72 at HO_4 BK166 BK169 BK174 HB hHeld ⊢
         refine pV_ 0 48 (bm 26 1) HT_.out ?_
         refine pV_ 2 50 (bm 26 5) HT_.out ?_
         refine pV_ 4 52 (bm 26 21) HT_.out ?_
         refine pV_ 6 54 (bm 26 85) HT_.out ?_
         refine take_ (i:=1) (N:=some 49) (v:=?_) (a':=?_) (bm 26 87) rfl rfl (take_ofW HT_.out HW_.out (by kernel_rfl)) (fun _ _ _ h => h) (Or.inl ⟨by rfl,?_⟩) hHeld ?_ ?_
         rotate_left
         ·rintro w' ⟨s0,s1,s2,s3⟩
          go_simp
          with_reducible rfl
         rotate_left
         ·simp only [Act.put,setIfInBounds_toArray,set_cons_zero,set_cons_succ,i64_w,i32_w]
          rfl
         refine take_ (i:=3) (N:=some 51) (v:=?_) (a':=?_) (bm 26 95) rfl rfl (take_ofW HT_.out HW_.out (by kernel_rfl)) (fun _ _ _ h => h) (Or.inl ⟨by rfl,?_⟩) hHeld ?_ ?_
         rotate_left
         ·rintro w' ⟨s0,s1,s2,s3⟩
          go_simp
          with_reducible rfl
         rotate_left
         ·simp only [Act.put,setIfInBounds_toArray,set_cons_zero,set_cons_succ,i64_w,i32_w]
          rfl
         refine take_ (i:=5) (N:=some 53) (v:=?_) (a':=?_) (bm 26 127) rfl rfl (take_ofW HT_.out HW_.out (by kernel_rfl)) (fun _ _ _ h => h) (Or.inl ⟨by rfl,?_⟩) hHeld ?_ ?_
         rotate_left
         ·rintro w' ⟨s0,s1,s2,s3⟩
          go_simp
          with_reducible rfl
         rotate_left
         ·simp only [Act.put,setIfInBounds_toArray,set_cons_zero,set_cons_succ,i64_w,i32_w]
          rfl
         refine take_ (i:=7) (N:=some 55) (v:=?_) (a':=?_) (bm 26 255) rfl rfl (take_ofW HT_.out HW_.out (by kernel_rfl)) (fun _ _ _ h => h) (Or.inl ⟨by rfl,?_⟩) hHeld ?_ ?_
         rotate_left
         ·rintro w' ⟨s0,s1,s2,s3⟩
          go_simp
          with_reducible rfl
         rotate_left
         ·simp only [Act.put,setIfInBounds_toArray,set_cons_zero,set_cons_succ,i64_w,i32_w]
          rfl
         refine pV_ 8 56 (bm 26 511) HT_.out ?_
         refine one_ (i:=9) (N:=some 57) (bm 26 1023) rfl rfl (one_of HT_.out (by kernel_rfl)) (by decide) (fun K hK => ?_)
         refine goes_ Tryz.func35 (by kernel_rfl) rfl #[.agg #[.int .i64 0,.int .i64 0,.int .i64 ((rd_T64 l0_2 x5_2).f0),.int .i64 ((rd_T64 l0_2 x5_2).f1),.int .i64 ((rd_T64 l0_2 x5_2).f2),.string ((rd_T64 l0_2 x5_2).f3)],.int .i64 0] (by rfl) rfl rfl mA ?_
         with_reducible refine (spec_l06Tiered.calls k2 0 0 ((rd_T64 l0_2 x5_2).f0) ((rd_T64 l0_2 x5_2).f1) ((rd_T64 l0_2 x5_2).f2) ((rd_T64 l0_2 x5_2).f3) 0 false _ A20.out).mono ?_
         rintro e w73 ⟨rfl,hb⟩
         refine ⟨_,rfl,?_⟩
         have n0_ := Aside0.mk (Kd.R_below (rA HO_4.out) hb)
         have n1_ := Aside0.mk (bb BK166.out hb)
         have n2_ := Aside0.mk (bb BK169.out hb)
         have n3_ := Aside0.mk (bb BK174.out hb)
         have n4_ := Aside0.mk (below_step bA hb)
         clear HO_4 BK166 BK169 BK174 HB
         have HO_4 := n0_
         have BK166 := n1_
         have BK169 := n2_
         have BK174 := n3_
         have HB := n4_
         clear n0_ n1_ n2_ n3_ n4_
         (try clear hb)
         (try clear hb2)
         (try clear hk)
         (try clear hi)
         refine hK.out _ _ ⟨bl BK174 0,bl BK174 1,bl BK174 2,bl BK174 3⟩ (fun hHeld => ?_)
         clear hK K
         refine norm_ (a':=?_) ?_ ?_
         rotate_left
         ·show Act.put _ (some 57) _ = _
          simp only [Act.put,setIfInBounds_toArray,set_cons_zero,set_cons_succ,i64_w,i32_w]
          rfl
         refine pV_ 10 58 (bm 26 2047) HT_.out ?_
         refine pV_ 11 59 (bm 26 4095) HT_.out ?_
         refine pU_ 12 60 (bm 26 8191) HT_.out ?_
         refine pU_ 13 61 (bm 26 16383) HT_.out ?_
         refine pU_ 14 62 (bm 26 32767) HT_.out ?_
         refine pU_ 15 63 (bm 26 65535) HT_.out ?_
         refine pU_ 16 64 (bm 26 131071) HT_.out ?_
         refine pU_ 17 65 (bm 26 262143) HT_.out ?_
         refine pU_ 18 66 (bm 26 524287) HT_.out ?_
         refine pV_ 19 67 (bm 26 1048575) HT_.out ?_
         refine pV_ 20 68 (bm 26 2097151) HT_.out ?_
         refine pU_ 21 69 (bm 26 4194303) HT_.out ?_
         refine pU_ 22 70 (bm 26 8388607) HT_.out ?_
         refine pU_ 23 71 (bm 26 16777215) HT_.out ?_
         refine pU_ 24 72 (bm 26 33554431) HT_.out ?_
         refine pV_ 25 73 (bm 26 67108863) HT_.out ?_
         refine done_ (done_of HT_.out (by kernel_rfl)) ?_
         try go_wp2
         go_ret
         exact ⟨by first | rfl | (simp only [i64_w,i32_w] <;> rfl) | (simp [errW_none,errW_some] <;> rfl) | (simp [*,errW_none,errW_some] <;> rfl),bA⟩
       ·rw [if_neg c19] at H
        exact absurd H (by simp)
      ·rw [if_neg c18] at H
       have c18b0 : decide (x5_2 < (l0_2.length : Int)) = false := decide_eq_false c18
       clear c18
       have H' := Aside0.mk H
       clear H
       have hnb74 := NB166_169.out
       have hnc74 := NB169_166.out
       obtain ⟨hcz75_0,hcz75_1,hcz75_2,hcz75_3,hcz75_4,hcz75_5,hcz75_6,hcz75_7,hcz75_8,hcz75_9⟩ := cl10 BK166.out
       obtain ⟨hfz75_0,hfz75_1,hfz75_2,hfz75_3,hfz75_4,hfz75_5,hfz75_6,hfz75_7,hfz75_8,hfz75_9⟩ := fz10 BK166.out
       go_wp2
       go_loopg [4,7] k2 (fun kq v4 v7 w' => ∃ (x4_3 : List ByteArray) (x7_3 : Int),v7 = .int .i64 x7_3 ∧ Aside0 (spec_StateOK.l1 kq x4_3 x7_3 a0_0 a0_1 l0_2 l0_3 a0_4 a0_5 a0_6 a0_7 a0_8 a0_9 x170000_2 x170001_2 x170002_2 = some r) ∧ Aside0 (kq ≤ k2) ∧ Aside0 (Kd.R Kd.string 9 w' w.heap.size (fun _ => True) v4 x4_3) ∧ Aside0 (w'.heap[gb166]? = some (.cells #[.int .i64 a0_0,.int .i64 a0_1,(.slice A0_2 l0_2.length c0_2),(.slice A0_3 l0_3.length c0_3),.int .i64 a0_4,.int .i64 a0_5,.int .i64 a0_6,.int .i64 a0_7,.int .i64 a0_8,.int .i64 a0_9] 35 (0,0))) ∧ Aside0 (w'.heap[gb169]? = some (.cells #[.int .i64 x170000_2,.int .i64 x170001_2,.int .i64 x170002_2] 24 (0,0))) ∧ Aside0 (Below w.heap.size w w'))
       case atStart => exact ⟨(x4_2),(0),(by first | rfl | (simp; done) | (simp [*]; done)),H',⟨Nat.le_refl _⟩,⟨rA HO_4.out⟩,⟨kA BK166.out⟩,⟨kA BK169.out⟩,⟨bA⟩⟩
       case round =>
        clear H'
        try clear c1
        try clear p1
        try clear q1
        try clear hx1
        try clear c2
        try clear p2
        try clear c3
        try clear c5
        try clear c6
        try clear c7
        try clear p17
        try clear q17
        try clear hx17
        try clear c18
        try clear c18b0
        try clear c19
        try clear c21
        try clear c22
        try clear c23
        try clear c24
        try clear c24b0
        try clear c24b1
        try clear c35
        try clear c38
        try clear c55
        try clear c58
        try clear c59
        try clear c65
        try clear c68
        try clear c69
        try clear c74
        try clear hcz56_0 hcz56_1 hcz56_2 hcz56_3 hcz56_4 hcz56_5 hcz56_6 hcz56_7 hcz56_8 hcz56_9
        try clear hcz60_0 hcz60_1 hcz60_2 hcz60_3
        try clear hcz66_0 hcz66_1 hcz66_2 hcz66_3 hcz66_4 hcz66_5 hcz66_6 hcz66_7 hcz66_8 hcz66_9
        try clear hcz70_0 hcz70_1 hcz70_2 hcz70_3
        try clear hcz75_0 hcz75_1 hcz75_2 hcz75_3 hcz75_4 hcz75_5 hcz75_6 hcz75_7 hcz75_8 hcz75_9
        try clear hfz56_0 hfz56_1 hfz56_2 hfz56_3 hfz56_4 hfz56_5 hfz56_6 hfz56_7 hfz56_8 hfz56_9
        try clear hfz60_0 hfz60_1 hfz60_2 hfz60_3
        try clear hfz66_0 hfz66_1 hfz66_2 hfz66_3 hfz66_4 hfz66_5 hfz66_6 hfz66_7 hfz66_8 hfz66_9
        try clear hfz70_0 hfz70_1 hfz70_2 hfz70_3
        try clear hfz75_0 hfz75_1 hfz75_2 hfz75_3 hfz75_4 hfz75_5 hfz75_6 hfz75_7 hfz75_8 hfz75_9
        try clear hx173_0
        try clear hx173_1
        try clear hx173_2
        try clear hx173_3
        try clear p173
        try clear q173
        obtain ⟨x4_3,x7_3,rfl,HA,HK3,HO_4,BK166,BK169,HB⟩ := hrel
        cases gk with
        | zero => exact absurd HA.out (by simp [spec_StateOK.l1])
        | succ k3 =>
         have H := HA.out
         clear HA
         simp only [spec_StateOK.l1] at H
         by_cases c76 : x7_3 < (l0_3.length : Int)
         ·rw [if_pos c76] at H
          have c76b0 : decide (x7_3 < (l0_3.length : Int)) = true := decide_eq_true c76
          clear c76
          by_cases c77 : 0 ≤ x7_3
          ·rw [if_pos c77] at H
           have c77b0 : decide (0 ≤ x7_3) = true := decide_eq_true c77
           clear c77
           replace H := Option.bind_eq_some_iff.mp H
           obtain ⟨⟨t181,t182,t183,t184⟩,A780,H⟩ := H
           try dsimp only at H
           have A78 := Aside0.mk A780
           clear A780
           by_cases c79 : t184 = true
           ·subst c79
            rw [if_pos rfl] at H
            replace H := Option.bind_eq_some_iff.mp H
            obtain ⟨t186,A800,H⟩ := H
            try dsimp only at H
            have A80 := Aside0.mk A800
            clear A800
            by_cases c81 : t186 = true
            ·subst c81
             rw [if_pos rfl] at H
             replace H := Option.bind_eq_some_iff.mp H
             obtain ⟨t188,A820,H⟩ := H
             try dsimp only at H
             have A82 := Aside0.mk A820
             clear A820
             by_cases c83 : t188 = true
             ·subst c83
              rw [if_pos rfl] at H
              obtain rfl := Option.some.inj H
              have hnb84 := NB166_169.out
              have hnc84 := NB169_166.out
              obtain ⟨hcz85_0,hcz85_1,hcz85_2,hcz85_3,hcz85_4,hcz85_5,hcz85_6,hcz85_7,hcz85_8,hcz85_9⟩ := cl10 BK166.out
              obtain ⟨hfz85_0,hfz85_1,hfz85_2,hfz85_3,hfz85_4,hfz85_5,hfz85_6,hfz85_7,hfz85_8,hfz85_9⟩ := fz10 BK166.out
              have p180 : 0 ≤ (x7_3 : Int) := od
              have q180 : x7_3 < (l0_3.length : Int) := od
              obtain ⟨ad180,e180,hx180_0,hx180_1⟩ := at_T71 HR0_3.out x7_3 p180 q180
              cases e180
              replace hx180_0 := cb HB.out hx180_0
              replace hx180_1 := cb HB.out hx180_1
              replace p180 := eq_true p180
              replace q180 := eq_true q180
              try go_wp2_with (first | ((with_reducible refine gate_callee (f:=37) rfl ?_); refine goesL_ (some 98) rfl rfl Tryz.func37 (by kernel_rfl) rfl #[.string ((rd_T71 l0_3 x7_3).f1)] rfl mA ?_; (with_reducible refine (spec_l03ToKey.calls k3 ((rd_T71 l0_3 x7_3).f1) t181 t182 t183 true _ A78.out).mono ?_); rintro e w86 ⟨rfl,hb⟩; refine ⟨_,rfl,?_⟩; have n0_ := Aside0.mk (Kd.R_below (rA HO_4.out) hb); have n1_ := Aside0.mk (bb BK166.out hb); have n2_ := Aside0.mk (bb BK169.out hb); have n3_ := Aside0.mk (below_step bA hb); clear HO_4 BK166 BK169 HB; have HO_4 := n0_; have BK166 := n1_; have BK169 := n2_; have HB := n3_; clear n0_ n1_ n2_ n3_; (try clear hb); (try clear hb2); (try clear hk); (try clear hi)))
              have n0_ := Aside0.mk (Kd.R_drew HO_4.out)
              have n1_ := Aside0.mk (blk_drew BK166.out)
              have n2_ := Aside0.mk (blk_drew BK169.out)
              have n3_ := Aside0.mk (below_drew1 HB.out)
              clear HO_4 BK166 BK169 HB
              have HO_4 := n0_
              have BK166 := n1_
              have BK169 := n2_
              have HB := n3_
              clear n0_ n1_ n2_ n3_
              have p185 : 0 ≤ (x7_3 : Int) := od
              have q185 : x7_3 < (l0_3.length : Int) := od
              obtain ⟨ad185,e185,hx185_0,hx185_1⟩ := at_T71 HR0_3.out x7_3 p185 q185
              have hw185_1 := hx185_1
              have hw185_0 := hx185_0
              obtain rfl : ad180 = ad185 := (by injection e185)
              replace hx185_0 := cb HB.out hx185_0
              replace hx185_1 := cb HB.out hx185_1
              replace p185 := eq_true p185
              replace q185 := eq_true q185
              have p187 : 0 ≤ (x7_3 : Int) := od
              have q187 : x7_3 < (l0_3.length : Int) := od
              obtain ⟨ad187,e187,hx187_0,hx187_1⟩ := at_T71 HR0_3.out x7_3 p187 q187
              have hw187_1 := hx187_1
              have hw187_0 := hx187_0
              obtain rfl : ad180 = ad187 := (by injection e187)
              replace hx187_0 := cb HB.out hx187_0
              replace hx187_1 := cb HB.out hx187_1
              replace p187 := eq_true p187
              replace q187 := eq_true q187
              refine start_ (n:=24) (S:=fun w' => w'.cell? ⟨gb166,0,none⟩ = some (.int .i64 a0_0) ∧ w'.cell? ⟨gb166,1,none⟩ = some (.int .i64 a0_1) ∧ w'.cell? ⟨gb166,2,none⟩ = some (.slice A0_2 l0_2.length c0_2) ∧ w'.cell? ⟨gb166,3,none⟩ = some (.slice (some ad180) l0_3.length c0_3) ∧ w'.cell? ⟨gb166,4,none⟩ = some (.int .i64 a0_4) ∧ w'.cell? ⟨gb166,5,none⟩ = some (.int .i64 a0_5) ∧ w'.cell? ⟨gb166,6,none⟩ = some (.int .i64 a0_6) ∧ w'.cell? ⟨gb166,7,none⟩ = some (.int .i64 a0_7) ∧ w'.cell? ⟨gb166,8,none⟩ = some (.int .i64 a0_8) ∧ w'.cell? ⟨gb166,9,none⟩ = some (.int .i64 a0_9) ∧ w'.cell? (ad180.add ((x7_3).toNat * 2)) = some (.int .i64 ((rd_T71 l0_3 x7_3).f0)) ∧ w'.cell? ⟨(ad180.add ((x7_3).toNat * 2)).block,(ad180.add ((x7_3).toNat * 2)).off + 1,none⟩ = some (.string ((rd_T71 l0_3 x7_3).f1)) ∧ w'.cell? (ad180.add ((x7_3).toNat * 2)) = some (.int .i64 ((rd_T71 l0_3 x7_3).f0)) ∧ w'.cell? ⟨(ad180.add ((x7_3).toNat * 2)).block,(ad180.add ((x7_3).toNat * 2)).off + 1,none⟩ = some (.string ((rd_T71 l0_3 x7_3).f1))) (ds := []) (bm 24 0) (by kernel_rfl) rfl rfl ⟨bl BK166 0,bl BK166 1,bl BK166 2,bl BK166 3,bl BK166 4,bl BK166 5,bl BK166 6,bl BK166 7,bl BK166 8,bl BK166 9,(cb HB.out hw185_0),(cb HB.out hw185_1),(cb HB.out hw187_0),(cb HB.out hw187_1)⟩ (fun hHeld => ?_); refine with_tabW spec_StateOK.tab17 spec_StateOK.bits17 (fun HT_ HW_ => ?_)
              generalize w86.drew = w87 at HO_4 BK166 BK169 HB hx185_0 hx185_1 hx187_0 hx187_1 hHeld ⊢
              refine pV_ 0 103 (bm 24 1) HT_.out ?_
              refine pV_ 1 104 (bm 24 3) HT_.out ?_
              refine pV_ 2 105 (bm 24 7) HT_.out ?_
              refine pV_ 3 106 (bm 24 15) HT_.out ?_
              refine pV_ 5 108 (bm 24 47) HT_.out ?_
              refine pV_ 9 112 (bm 24 559) HT_.out ?_
              refine take_ (i:=4) (N:=some 107) (v:=?_) (a':=?_) (bm 24 575) rfl rfl (take_ofW HT_.out HW_.out (by kernel_rfl)) (fun _ _ _ h => h) (Or.inl ⟨by rfl,?_⟩) hHeld ?_ ?_
              rotate_left
              ·rintro w' ⟨s0,s1,s2,s3,s4,s5,s6,s7,s8,s9,s10,s11,s12,s13⟩
               go_simp
               with_reducible rfl
              rotate_left
              ·simp only [Act.put,setIfInBounds_toArray,set_cons_zero,set_cons_succ,i64_w,i32_w]
               rfl
              refine pV_ 6 109 (bm 24 639) HT_.out ?_
              refine pV_ 7 110 (bm 24 767) HT_.out ?_
              refine take_ (i:=8) (N:=some 111) (v:=?_) (a':=?_) (bm 24 1023) rfl rfl (take_ofW HT_.out HW_.out (by kernel_rfl)) (fun _ _ _ h => h) (Or.inl ⟨by rfl,?_⟩) hHeld ?_ ?_
              rotate_left
              ·rintro w' ⟨s0,s1,s2,s3,s4,s5,s6,s7,s8,s9,s10,s11,s12,s13⟩
               go_simp
               with_reducible rfl
              rotate_left
              ·simp only [Act.put,setIfInBounds_toArray,set_cons_zero,set_cons_succ,i64_w,i32_w]
               rfl
              refine take_ (i:=10) (N:=some 113) (v:=?_) (a':=?_) (bm 24 2047) rfl rfl (take_ofW HT_.out HW_.out (by kernel_rfl)) (fun _ _ _ h => h) (Or.inl ⟨by rfl,?_⟩) hHeld ?_ ?_
              rotate_left
              ·rintro w' ⟨s0,s1,s2,s3,s4,s5,s6,s7,s8,s9,s10,s11,s12,s13⟩
               go_simp
               with_reducible rfl
              rotate_left
              ·simp only [Act.put,setIfInBounds_toArray,set_cons_zero,set_cons_succ,i64_w,i32_w]
               rfl
              refine one_ (i:=11) (N:=some 114) (bm 24 4095) rfl rfl (one_of HT_.out (by kernel_rfl)) (by decide) (fun K hK => ?_)
              refine goes_ Tryz.func34 (by kernel_rfl) rfl #[.int .i64 ((rd_T71 l0_3 x7_3).f0),.int .i64 1,.int .i64 a0_0] (by rfl) rfl rfl mA ?_
              with_reducible refine (spec_l01In.calls ((rd_T71 l0_3 x7_3).f0) 1 a0_0 true _ A80.out).mono ?_
              rintro e w' ⟨rfl,⟨nd,rfl⟩⟩
              refine ⟨_,rfl,?_⟩
              obtain ⟨Ao88,co88,eo88⟩ := Kd.R_slice HO_4.out
              (first | subst eo88 | (injection eo88 with f1_ f2_ f3_; have f4_ := f1_.symm; have f5_ := f3_.symm; clear f1_ f2_ f3_; subst f4_; subst f5_))
              refine hK.out _ _ ⟨bl BK166 0,bl BK166 1,bl BK166 2,bl BK166 3,bl BK166 4,bl BK166 5,bl BK166 6,bl BK166 7,bl BK166 8,bl BK166 9,(cb HB.out hw185_0),(cb HB.out hw185_1),(cb HB.out hw187_0),(cb HB.out hw187_1)⟩ (fun hHeld => ?_)
              clear hK K
              refine norm_ (a':=?_) ?_ ?_
              rotate_left
              ·show Act.put _ (some 114) _ = _
               simp only [Act.put,setIfInBounds_toArray,set_cons_zero,set_cons_succ,i64_w,i32_w]
               rfl
              refine pV_ 12 115 (bm 24 8191) HT_.out ?_
              refine pV_ 13 116 (bm 24 16383) HT_.out ?_
              refine pV_ 14 117 (bm 24 32767) HT_.out ?_
              refine pV_ 15 118 (bm 24 65535) HT_.out ?_
              refine pV_ 16 119 (bm 24 131071) HT_.out ?_
              refine pV_ 18 121 (bm 24 393215) HT_.out ?_
              refine take_ (i:=17) (N:=some 120) (v:=?_) (a':=?_) (bm 24 524287) rfl rfl (take_ofW HT_.out HW_.out (by kernel_rfl)) (fun _ _ _ h => h) (Or.inl ⟨by rfl,?_⟩) hHeld ?_ ?_
              rotate_left
              ·rintro w' ⟨s0,s1,s2,s3,s4,s5,s6,s7,s8,s9,s10,s11,s12,s13⟩
               go_simp
               with_reducible rfl
              rotate_left
              ·simp only [Act.put,setIfInBounds_toArray,set_cons_zero,set_cons_succ,i64_w,i32_w]
               rfl
              refine pV_ 19 122 (bm 24 1048575) HT_.out ?_
              refine pV_ 20 123 (bm 24 2097151) HT_.out ?_
              refine take_ (i:=21) (N:=some 124) (v:=?_) (a':=?_) (bm 24 4194303) rfl rfl (take_ofW HT_.out HW_.out (by kernel_rfl)) (fun _ _ _ h => h) (Or.inl ⟨by rfl,?_⟩) hHeld ?_ ?_
              rotate_left
              ·rintro w' ⟨s0,s1,s2,s3,s4,s5,s6,s7,s8,s9,s10,s11,s12,s13⟩
               go_simp
               with_reducible rfl
              rotate_left
              ·simp only [Act.put,setIfInBounds_toArray,set_cons_zero,set_cons_succ,i64_w,i32_w]
               rfl
              refine one_ (i:=22) (N:=some 125) (bm 24 8388607) rfl rfl (one_of HT_.out (by kernel_rfl)) (by decide) (fun K hK => ?_)
              refine goes_ Tryz.func36 (by kernel_rfl) rfl #[.slice Ao88 x4_3.length co88,.string ((rd_T71 l0_3 x7_3).f1)] (by rfl) rfl rfl mA ?_
              with_reducible refine (spec_l06In.calls k3 _ _ x4_3 ((rd_T71 l0_3 x7_3).f1) true _ ?side1 ?side2 A82.out).mono ?_
              (case side1 => repeat (first | exact (Kd.R_reads' HO_4.out).2.2 | (with_reducible refine Kd.C_alloc ?_ _) | (with_reducible refine Kd.C_drewN ?_ _) | (with_reducible refine Kd.C_drew ?_)))
              (case side2 => exact (Kd.R_reads' HO_4.out).2.1)
              rintro e w' ⟨rfl,⟨nd,rfl⟩⟩
              refine ⟨_,rfl,?_⟩
              refine hK.out _ _ ⟨bl BK166 0,bl BK166 1,bl BK166 2,bl BK166 3,bl BK166 4,bl BK166 5,bl BK166 6,bl BK166 7,bl BK166 8,bl BK166 9,(cb HB.out hw185_0),(cb HB.out hw185_1),(cb HB.out hw187_0),(cb HB.out hw187_1)⟩ (fun hHeld => ?_)
              clear hK K
              refine norm_ (a':=?_) ?_ ?_
              rotate_left
              ·show Act.put _ (some 125) _ = _
               simp only [Act.put,setIfInBounds_toArray,set_cons_zero,set_cons_succ,i64_w,i32_w]
               rfl
              refine pV_ 23 126 (bm 24 16777215) HT_.out ?_
              refine done_ (done_of HT_.out (by kernel_rfl)) ?_
              try go_wp2
              go_ret
              exact ⟨by first | rfl | (simp only [i64_w,i32_w] <;> rfl) | (simp [errW_none,errW_some] <;> rfl) | (simp [*,errW_none,errW_some] <;> rfl),bA⟩
             ·replace c83 := Bool.eq_false_iff.mpr c83
              subst c83
              rw [if_neg (show ¬ (false = true) by decide)] at H
              by_cases c89 : x4_3.length < 8796093022208
              ·rw [if_pos c89] at H
               have LMc89 := Aside0.mk c89
               clear c89
               obtain ⟨y190,hy190⟩ : ∃ y_ : List ByteArray,y_ = (x4_3 ++ [(rd_T71 l0_3 x7_3).f1]) := ⟨_,rfl⟩
               replace H : (spec_StateOK.l1 k3 y190 (wrap64 (x7_3 + 1)) a0_0 a0_1 l0_2 l0_3 a0_4 a0_5 a0_6 a0_7 a0_8 a0_9 x170000_2 x170001_2 x170002_2) = some r := by first | (rw [hy190]; with_reducible exact H) | (have H2_ := (Option.bind_some _ _).symm.trans H; rw [hy190]; with_reducible exact H2_) | (have H2_ := (Option.bind_some _ _).symm.trans H; with_reducible exact H2_) | with_reducible exact H | (rw [hy190]; exact H) | exact H
               have Ny190 := Aside0.mk hy190
               clear hy190
               have H' := Aside0.mk H
               clear H
               have hnb90 := NB166_169.out
               have hnc90 := NB169_166.out
               obtain ⟨hcz91_0,hcz91_1,hcz91_2,hcz91_3,hcz91_4,hcz91_5,hcz91_6,hcz91_7,hcz91_8,hcz91_9⟩ := cl10 BK166.out
               obtain ⟨hfz91_0,hfz91_1,hfz91_2,hfz91_3,hfz91_4,hfz91_5,hfz91_6,hfz91_7,hfz91_8,hfz91_9⟩ := fz10 BK166.out
               have p180 : 0 ≤ (x7_3 : Int) := od
               have q180 : x7_3 < (l0_3.length : Int) := od
               obtain ⟨ad180,e180,hx180_0,hx180_1⟩ := at_T71 HR0_3.out x7_3 p180 q180
               cases e180
               replace hx180_0 := cb HB.out hx180_0
               replace hx180_1 := cb HB.out hx180_1
               replace p180 := eq_true p180
               replace q180 := eq_true q180
               try go_wp2_with (first | ((with_reducible refine gate_callee (f:=37) rfl ?_); refine goesL_ (some 98) rfl rfl Tryz.func37 (by kernel_rfl) rfl #[.string ((rd_T71 l0_3 x7_3).f1)] rfl mA ?_; (with_reducible refine (spec_l03ToKey.calls k3 ((rd_T71 l0_3 x7_3).f1) t181 t182 t183 true _ A78.out).mono ?_); rintro e w92 ⟨rfl,hb⟩; refine ⟨_,rfl,?_⟩; have n0_ := Aside0.mk (Kd.R_below (rA HO_4.out) hb); have n1_ := Aside0.mk (bb BK166.out hb); have n2_ := Aside0.mk (bb BK169.out hb); have n3_ := Aside0.mk (below_step bA hb); clear HO_4 BK166 BK169 HB; have HO_4 := n0_; have BK166 := n1_; have BK169 := n2_; have HB := n3_; clear n0_ n1_ n2_ n3_; (try clear hb); (try clear hb2); (try clear hk); (try clear hi)))
               have n0_ := Aside0.mk (Kd.R_drew HO_4.out)
               have n1_ := Aside0.mk (blk_drew BK166.out)
               have n2_ := Aside0.mk (blk_drew BK169.out)
               have n3_ := Aside0.mk (below_drew1 HB.out)
               clear HO_4 BK166 BK169 HB
               have HO_4 := n0_
               have BK166 := n1_
               have BK169 := n2_
               have HB := n3_
               clear n0_ n1_ n2_ n3_
               have p185 : 0 ≤ (x7_3 : Int) := od
               have q185 : x7_3 < (l0_3.length : Int) := od
               obtain ⟨ad185,e185,hx185_0,hx185_1⟩ := at_T71 HR0_3.out x7_3 p185 q185
               have hw185_1 := hx185_1
               have hw185_0 := hx185_0
               obtain rfl : ad180 = ad185 := (by injection e185)
               replace hx185_0 := cb HB.out hx185_0
               replace hx185_1 := cb HB.out hx185_1
               replace p185 := eq_true p185
               replace q185 := eq_true q185
               have p187 : 0 ≤ (x7_3 : Int) := od
               have q187 : x7_3 < (l0_3.length : Int) := od
               obtain ⟨ad187,e187,hx187_0,hx187_1⟩ := at_T71 HR0_3.out x7_3 p187 q187
               have hw187_1 := hx187_1
               have hw187_0 := hx187_0
               obtain rfl : ad180 = ad187 := (by injection e187)
               replace hx187_0 := cb HB.out hx187_0
               replace hx187_1 := cb HB.out hx187_1
               replace p187 := eq_true p187
               replace q187 := eq_true q187
               refine start_ (n:=24) (S:=fun w' => w'.cell? ⟨gb166,0,none⟩ = some (.int .i64 a0_0) ∧ w'.cell? ⟨gb166,1,none⟩ = some (.int .i64 a0_1) ∧ w'.cell? ⟨gb166,2,none⟩ = some (.slice A0_2 l0_2.length c0_2) ∧ w'.cell? ⟨gb166,3,none⟩ = some (.slice (some ad180) l0_3.length c0_3) ∧ w'.cell? ⟨gb166,4,none⟩ = some (.int .i64 a0_4) ∧ w'.cell? ⟨gb166,5,none⟩ = some (.int .i64 a0_5) ∧ w'.cell? ⟨gb166,6,none⟩ = some (.int .i64 a0_6) ∧ w'.cell? ⟨gb166,7,none⟩ = some (.int .i64 a0_7) ∧ w'.cell? ⟨gb166,8,none⟩ = some (.int .i64 a0_8) ∧ w'.cell? ⟨gb166,9,none⟩ = some (.int .i64 a0_9) ∧ w'.cell? (ad180.add ((x7_3).toNat * 2)) = some (.int .i64 ((rd_T71 l0_3 x7_3).f0)) ∧ w'.cell? ⟨(ad180.add ((x7_3).toNat * 2)).block,(ad180.add ((x7_3).toNat * 2)).off + 1,none⟩ = some (.string ((rd_T71 l0_3 x7_3).f1)) ∧ w'.cell? (ad180.add ((x7_3).toNat * 2)) = some (.int .i64 ((rd_T71 l0_3 x7_3).f0)) ∧ w'.cell? ⟨(ad180.add ((x7_3).toNat * 2)).block,(ad180.add ((x7_3).toNat * 2)).off + 1,none⟩ = some (.string ((rd_T71 l0_3 x7_3).f1))) (ds := []) (bm 24 0) (by kernel_rfl) rfl rfl ⟨bl BK166 0,bl BK166 1,bl BK166 2,bl BK166 3,bl BK166 4,bl BK166 5,bl BK166 6,bl BK166 7,bl BK166 8,bl BK166 9,(cb HB.out hw185_0),(cb HB.out hw185_1),(cb HB.out hw187_0),(cb HB.out hw187_1)⟩ (fun hHeld => ?_); refine with_tabW spec_StateOK.tab17 spec_StateOK.bits17 (fun HT_ HW_ => ?_)
               generalize w92.drew = w93 at HO_4 BK166 BK169 HB hx185_0 hx185_1 hx187_0 hx187_1 hHeld ⊢
               refine pV_ 0 103 (bm 24 1) HT_.out ?_
               refine pV_ 1 104 (bm 24 3) HT_.out ?_
               refine pV_ 2 105 (bm 24 7) HT_.out ?_
               refine pV_ 3 106 (bm 24 15) HT_.out ?_
               refine pV_ 5 108 (bm 24 47) HT_.out ?_
               refine pV_ 9 112 (bm 24 559) HT_.out ?_
               refine take_ (i:=4) (N:=some 107) (v:=?_) (a':=?_) (bm 24 575) rfl rfl (take_ofW HT_.out HW_.out (by kernel_rfl)) (fun _ _ _ h => h) (Or.inl ⟨by rfl,?_⟩) hHeld ?_ ?_
               rotate_left
               ·rintro w' ⟨s0,s1,s2,s3,s4,s5,s6,s7,s8,s9,s10,s11,s12,s13⟩
                go_simp
                with_reducible rfl
               rotate_left
               ·simp only [Act.put,setIfInBounds_toArray,set_cons_zero,set_cons_succ,i64_w,i32_w]
                rfl
               refine pV_ 6 109 (bm 24 639) HT_.out ?_
               refine pV_ 7 110 (bm 24 767) HT_.out ?_
               refine take_ (i:=8) (N:=some 111) (v:=?_) (a':=?_) (bm 24 1023) rfl rfl (take_ofW HT_.out HW_.out (by kernel_rfl)) (fun _ _ _ h => h) (Or.inl ⟨by rfl,?_⟩) hHeld ?_ ?_
               rotate_left
               ·rintro w' ⟨s0,s1,s2,s3,s4,s5,s6,s7,s8,s9,s10,s11,s12,s13⟩
                go_simp
                with_reducible rfl
               rotate_left
               ·simp only [Act.put,setIfInBounds_toArray,set_cons_zero,set_cons_succ,i64_w,i32_w]
                rfl
               refine take_ (i:=10) (N:=some 113) (v:=?_) (a':=?_) (bm 24 2047) rfl rfl (take_ofW HT_.out HW_.out (by kernel_rfl)) (fun _ _ _ h => h) (Or.inl ⟨by rfl,?_⟩) hHeld ?_ ?_
               rotate_left
               ·rintro w' ⟨s0,s1,s2,s3,s4,s5,s6,s7,s8,s9,s10,s11,s12,s13⟩
                go_simp
                with_reducible rfl
               rotate_left
               ·simp only [Act.put,setIfInBounds_toArray,set_cons_zero,set_cons_succ,i64_w,i32_w]
                rfl
               refine one_ (i:=11) (N:=some 114) (bm 24 4095) rfl rfl (one_of HT_.out (by kernel_rfl)) (by decide) (fun K hK => ?_)
               refine goes_ Tryz.func34 (by kernel_rfl) rfl #[.int .i64 ((rd_T71 l0_3 x7_3).f0),.int .i64 1,.int .i64 a0_0] (by rfl) rfl rfl mA ?_
               with_reducible refine (spec_l01In.calls ((rd_T71 l0_3 x7_3).f0) 1 a0_0 true _ A80.out).mono ?_
               rintro e w' ⟨rfl,⟨nd,rfl⟩⟩
               refine ⟨_,rfl,?_⟩
               obtain ⟨Ao94,co94,eo94⟩ := Kd.R_slice HO_4.out
               (first | subst eo94 | (injection eo94 with f1_ f2_ f3_; have f4_ := f1_.symm; have f5_ := f3_.symm; clear f1_ f2_ f3_; subst f4_; subst f5_))
               refine hK.out _ _ ⟨bl BK166 0,bl BK166 1,bl BK166 2,bl BK166 3,bl BK166 4,bl BK166 5,bl BK166 6,bl BK166 7,bl BK166 8,bl BK166 9,(cb HB.out hw185_0),(cb HB.out hw185_1),(cb HB.out hw187_0),(cb HB.out hw187_1)⟩ (fun hHeld => ?_)
               clear hK K
               refine norm_ (a':=?_) ?_ ?_
               rotate_left
               ·show Act.put _ (some 114) _ = _
                simp only [Act.put,setIfInBounds_toArray,set_cons_zero,set_cons_succ,i64_w,i32_w]
                rfl
               refine pV_ 12 115 (bm 24 8191) HT_.out ?_
               refine pV_ 13 116 (bm 24 16383) HT_.out ?_
               refine pV_ 14 117 (bm 24 32767) HT_.out ?_
               refine pV_ 15 118 (bm 24 65535) HT_.out ?_
               refine pV_ 16 119 (bm 24 131071) HT_.out ?_
               refine pV_ 18 121 (bm 24 393215) HT_.out ?_
               refine take_ (i:=17) (N:=some 120) (v:=?_) (a':=?_) (bm 24 524287) rfl rfl (take_ofW HT_.out HW_.out (by kernel_rfl)) (fun _ _ _ h => h) (Or.inl ⟨by rfl,?_⟩) hHeld ?_ ?_
               rotate_left
               ·rintro w' ⟨s0,s1,s2,s3,s4,s5,s6,s7,s8,s9,s10,s11,s12,s13⟩
                go_simp
                with_reducible rfl
               rotate_left
               ·simp only [Act.put,setIfInBounds_toArray,set_cons_zero,set_cons_succ,i64_w,i32_w]
                rfl
               refine pV_ 19 122 (bm 24 1048575) HT_.out ?_
               refine pV_ 20 123 (bm 24 2097151) HT_.out ?_
               refine take_ (i:=21) (N:=some 124) (v:=?_) (a':=?_) (bm 24 4194303) rfl rfl (take_ofW HT_.out HW_.out (by kernel_rfl)) (fun _ _ _ h => h) (Or.inl ⟨by rfl,?_⟩) hHeld ?_ ?_
               rotate_left
               ·rintro w' ⟨s0,s1,s2,s3,s4,s5,s6,s7,s8,s9,s10,s11,s12,s13⟩
                go_simp
                with_reducible rfl
               rotate_left
               ·simp only [Act.put,setIfInBounds_toArray,set_cons_zero,set_cons_succ,i64_w,i32_w]
                rfl
               refine one_ (i:=22) (N:=some 125) (bm 24 8388607) rfl rfl (one_of HT_.out (by kernel_rfl)) (by decide) (fun K hK => ?_)
               refine goes_ Tryz.func36 (by kernel_rfl) rfl #[.slice Ao94 x4_3.length co94,.string ((rd_T71 l0_3 x7_3).f1)] (by rfl) rfl rfl mA ?_
               with_reducible refine (spec_l06In.calls k3 _ _ x4_3 ((rd_T71 l0_3 x7_3).f1) false _ ?side1 ?side2 A82.out).mono ?_
               (case side1 => repeat (first | exact (Kd.R_reads' HO_4.out).2.2 | (with_reducible refine Kd.C_alloc ?_ _) | (with_reducible refine Kd.C_drewN ?_ _) | (with_reducible refine Kd.C_drew ?_)))
               (case side2 => exact (Kd.R_reads' HO_4.out).2.1)
               rintro e w' ⟨rfl,⟨nd,rfl⟩⟩
               refine ⟨_,rfl,?_⟩
               refine hK.out _ _ ⟨bl BK166 0,bl BK166 1,bl BK166 2,bl BK166 3,bl BK166 4,bl BK166 5,bl BK166 6,bl BK166 7,bl BK166 8,bl BK166 9,(cb HB.out hw185_0),(cb HB.out hw185_1),(cb HB.out hw187_0),(cb HB.out hw187_1)⟩ (fun hHeld => ?_)
               clear hK K
               refine norm_ (a':=?_) ?_ ?_
               rotate_left
               ·show Act.put _ (some 125) _ = _
                simp only [Act.put,setIfInBounds_toArray,set_cons_zero,set_cons_succ,i64_w,i32_w]
                rfl
               refine pV_ 23 126 (bm 24 16777215) HT_.out ?_
               refine done_ (done_of HT_.out (by kernel_rfl)) ?_
               obtain ⟨hcz95_0,hcz95_1,hcz95_2,hcz95_3,hcz95_4,hcz95_5,hcz95_6,hcz95_7,hcz95_8,hcz95_9⟩ := cl10 BK166.out
               obtain ⟨hfz95_0,hfz95_1,hfz95_2,hfz95_3,hfz95_4,hfz95_5,hfz95_6,hfz95_7,hfz95_8,hfz95_9⟩ := fz10 BK166.out
               have p189 : 0 ≤ (x7_3 : Int) := od
               have q189 : x7_3 < (l0_3.length : Int) := od
               obtain ⟨ad189,e189,hx189_0,hx189_1⟩ := at_T71 HR0_3.out x7_3 p189 q189
               obtain rfl : ad180 = ad189 := (by injection e189)
               replace hx189_0 := cb HB.out hx189_0
               replace hx189_1 := cb HB.out hx189_1
               replace p189 := eq_true p189
               replace q189 := eq_true q189
               try go_wp2_with (first | ((with_reducible refine gate_builtin (b:=.append) (xs := #[.tmp 127,.tmp 134]) rfl ?_); (try (refine gate_guard (by rfl) ?_; dsimp only)); at_builtin; refine Kd.R_append Kd.string (w0 := w) w.heap.size rfl (.tmp 127) (.tmp 134) 27 9 (.string ⟨#[]⟩) 16 rfl Tryz.underlying27 info9 rfl (by decide) (by omega) (.slice Ao94 x4_3.length co94) x4_3 ((rd_T71 l0_3 x7_3).f1) [.string ((rd_T71 l0_3 x7_3).f1)] (fun _ => True) (fun _ => False) rfl rfl ?aP (fun _ hk => hk.elim) ?aF ?aO ?aB ?aS ?aL ?_; (case aP => exact rfl); (case aB => exact bA); (case aF => exact (fun _ _ => trivial)); (case aO => exact (rA HO_4.out)); (case aS => exact (below_size bA)); (case aL => have := LMc89.out; omega); intro v191 w96 ho hb hg hat; rw [← Ny190.out] at ho; have n0_ := Aside0.mk (bg BK166.out hg (Kd.R_ne HO_4.out BK166.out (by decide))); have n1_ := Aside0.mk (bg BK169.out hg (Kd.R_ne HO_4.out BK169.out (by decide))); have n2_ := Aside0.mk (hb); have n3_ := Aside0.mk (ho); clear BK166 BK169 HB HO_4; have BK166 := n0_; have BK169 := n1_; have HB := n2_; have HO192 := n3_; clear n0_ n1_ n2_ n3_; clear ho hb hg hat))
               go_roundg k3
               case measure => have := HJ1.out; have := HK2.out; have := HK3.out; omega
               case rel => exact ⟨(y190),(wrap64 (x7_3 + 1)),(by first | rfl | (simp; done) | (simp [*]; done)),H',⟨by have := HJ1.out; have := HK2.out; have := HK3.out; omega⟩,⟨rA HO192.out⟩,⟨kA BK166.out⟩,⟨kA BK169.out⟩,⟨bA⟩⟩
              ·rw [if_neg c89] at H
               exact absurd H (by simp)
            ·replace c81 := Bool.eq_false_iff.mpr c81
             subst c81
             rw [if_neg (show ¬ (false = true) by decide)] at H
             obtain rfl := Option.some.inj H
             have hnb97 := NB166_169.out
             have hnc97 := NB169_166.out
             obtain ⟨hcz98_0,hcz98_1,hcz98_2,hcz98_3,hcz98_4,hcz98_5,hcz98_6,hcz98_7,hcz98_8,hcz98_9⟩ := cl10 BK166.out
             obtain ⟨hfz98_0,hfz98_1,hfz98_2,hfz98_3,hfz98_4,hfz98_5,hfz98_6,hfz98_7,hfz98_8,hfz98_9⟩ := fz10 BK166.out
             have p180 : 0 ≤ (x7_3 : Int) := od
             have q180 : x7_3 < (l0_3.length : Int) := od
             obtain ⟨ad180,e180,hx180_0,hx180_1⟩ := at_T71 HR0_3.out x7_3 p180 q180
             cases e180
             replace hx180_0 := cb HB.out hx180_0
             replace hx180_1 := cb HB.out hx180_1
             replace p180 := eq_true p180
             replace q180 := eq_true q180
             try go_wp2_with (first | ((with_reducible refine gate_callee (f:=37) rfl ?_); refine goesL_ (some 98) rfl rfl Tryz.func37 (by kernel_rfl) rfl #[.string ((rd_T71 l0_3 x7_3).f1)] rfl mA ?_; (with_reducible refine (spec_l03ToKey.calls k3 ((rd_T71 l0_3 x7_3).f1) t181 t182 t183 true _ A78.out).mono ?_); rintro e w99 ⟨rfl,hb⟩; refine ⟨_,rfl,?_⟩; have n0_ := Aside0.mk (Kd.R_below (rA HO_4.out) hb); have n1_ := Aside0.mk (bb BK166.out hb); have n2_ := Aside0.mk (bb BK169.out hb); have n3_ := Aside0.mk (below_step bA hb); clear HO_4 BK166 BK169 HB; have HO_4 := n0_; have BK166 := n1_; have BK169 := n2_; have HB := n3_; clear n0_ n1_ n2_ n3_; (try clear hb); (try clear hb2); (try clear hk); (try clear hi)))
             have n0_ := Aside0.mk (Kd.R_drew HO_4.out)
             have n1_ := Aside0.mk (blk_drew BK166.out)
             have n2_ := Aside0.mk (blk_drew BK169.out)
             have n3_ := Aside0.mk (below_drew1 HB.out)
             clear HO_4 BK166 BK169 HB
             have HO_4 := n0_
             have BK166 := n1_
             have BK169 := n2_
             have HB := n3_
             clear n0_ n1_ n2_ n3_
             have p185 : 0 ≤ (x7_3 : Int) := od
             have q185 : x7_3 < (l0_3.length : Int) := od
             obtain ⟨ad185,e185,hx185_0,hx185_1⟩ := at_T71 HR0_3.out x7_3 p185 q185
             have hw185_1 := hx185_1
             have hw185_0 := hx185_0
             obtain rfl : ad180 = ad185 := (by injection e185)
             replace hx185_0 := cb HB.out hx185_0
             replace hx185_1 := cb HB.out hx185_1
             replace p185 := eq_true p185
             replace q185 := eq_true q185
             refine start_ (n:=24) (S:=fun w' => w'.cell? ⟨gb166,0,none⟩ = some (.int .i64 a0_0) ∧ w'.cell? ⟨gb166,1,none⟩ = some (.int .i64 a0_1) ∧ w'.cell? ⟨gb166,2,none⟩ = some (.slice A0_2 l0_2.length c0_2) ∧ w'.cell? ⟨gb166,3,none⟩ = some (.slice (some ad180) l0_3.length c0_3) ∧ w'.cell? ⟨gb166,4,none⟩ = some (.int .i64 a0_4) ∧ w'.cell? ⟨gb166,5,none⟩ = some (.int .i64 a0_5) ∧ w'.cell? ⟨gb166,6,none⟩ = some (.int .i64 a0_6) ∧ w'.cell? ⟨gb166,7,none⟩ = some (.int .i64 a0_7) ∧ w'.cell? ⟨gb166,8,none⟩ = some (.int .i64 a0_8) ∧ w'.cell? ⟨gb166,9,none⟩ = some (.int .i64 a0_9) ∧ w'.cell? (ad180.add ((x7_3).toNat * 2)) = some (.int .i64 ((rd_T71 l0_3 x7_3).f0)) ∧ w'.cell? ⟨(ad180.add ((x7_3).toNat * 2)).block,(ad180.add ((x7_3).toNat * 2)).off + 1,none⟩ = some (.string ((rd_T71 l0_3 x7_3).f1))) (ds := []) (bm 24 0) (by kernel_rfl) rfl rfl ⟨bl BK166 0,bl BK166 1,bl BK166 2,bl BK166 3,bl BK166 4,bl BK166 5,bl BK166 6,bl BK166 7,bl BK166 8,bl BK166 9,(cb HB.out hw185_0),(cb HB.out hw185_1)⟩ (fun hHeld => ?_); refine with_tabW spec_StateOK.tab17 spec_StateOK.bits17 (fun HT_ HW_ => ?_)
             generalize w99.drew = w100 at HO_4 BK166 BK169 HB hx185_0 hx185_1 hHeld ⊢
             refine pV_ 0 103 (bm 24 1) HT_.out ?_
             refine pV_ 1 104 (bm 24 3) HT_.out ?_
             refine pV_ 2 105 (bm 24 7) HT_.out ?_
             refine pV_ 3 106 (bm 24 15) HT_.out ?_
             refine pV_ 5 108 (bm 24 47) HT_.out ?_
             refine pV_ 9 112 (bm 24 559) HT_.out ?_
             refine take_ (i:=4) (N:=some 107) (v:=?_) (a':=?_) (bm 24 575) rfl rfl (take_ofW HT_.out HW_.out (by kernel_rfl)) (fun _ _ _ h => h) (Or.inl ⟨by rfl,?_⟩) hHeld ?_ ?_
             rotate_left
             ·rintro w' ⟨s0,s1,s2,s3,s4,s5,s6,s7,s8,s9,s10,s11⟩
              go_simp
              with_reducible rfl
             rotate_left
             ·simp only [Act.put,setIfInBounds_toArray,set_cons_zero,set_cons_succ,i64_w,i32_w]
              rfl
             refine pV_ 6 109 (bm 24 639) HT_.out ?_
             refine pV_ 7 110 (bm 24 767) HT_.out ?_
             refine take_ (i:=8) (N:=some 111) (v:=?_) (a':=?_) (bm 24 1023) rfl rfl (take_ofW HT_.out HW_.out (by kernel_rfl)) (fun _ _ _ h => h) (Or.inl ⟨by rfl,?_⟩) hHeld ?_ ?_
             rotate_left
             ·rintro w' ⟨s0,s1,s2,s3,s4,s5,s6,s7,s8,s9,s10,s11⟩
              go_simp
              with_reducible rfl
             rotate_left
             ·simp only [Act.put,setIfInBounds_toArray,set_cons_zero,set_cons_succ,i64_w,i32_w]
              rfl
             refine take_ (i:=10) (N:=some 113) (v:=?_) (a':=?_) (bm 24 2047) rfl rfl (take_ofW HT_.out HW_.out (by kernel_rfl)) (fun _ _ _ h => h) (Or.inl ⟨by rfl,?_⟩) hHeld ?_ ?_
             rotate_left
             ·rintro w' ⟨s0,s1,s2,s3,s4,s5,s6,s7,s8,s9,s10,s11⟩
              go_simp
              with_reducible rfl
             rotate_left
             ·simp only [Act.put,setIfInBounds_toArray,set_cons_zero,set_cons_succ,i64_w,i32_w]
              rfl
             refine one_ (i:=11) (N:=some 114) (bm 24 4095) rfl rfl (one_of HT_.out (by kernel_rfl)) (by decide) (fun K hK => ?_)
             refine goes_ Tryz.func34 (by kernel_rfl) rfl #[.int .i64 ((rd_T71 l0_3 x7_3).f0),.int .i64 1,.int .i64 a0_0] (by rfl) rfl rfl mA ?_
             with_reducible refine (spec_l01In.calls ((rd_T71 l0_3 x7_3).f0) 1 a0_0 false _ A80.out).mono ?_
             rintro e w' ⟨rfl,⟨nd,rfl⟩⟩
             refine ⟨_,rfl,?_⟩
             refine hK.out _ _ ⟨bl BK166 0,bl BK166 1,bl BK166 2,bl BK166 3,bl BK166 4,bl BK166 5,bl BK166 6,bl BK166 7,bl BK166 8,bl BK166 9,(cb HB.out hw185_0),(cb HB.out hw185_1)⟩ (fun hHeld => ?_)
             clear hK K
             refine norm_ (a':=?_) ?_ ?_
             rotate_left
             ·show Act.put _ (some 114) _ = _
              simp only [Act.put,setIfInBounds_toArray,set_cons_zero,set_cons_succ,i64_w,i32_w]
              rfl
             refine pV_ 12 115 (bm 24 8191) HT_.out ?_
             refine pV_ 13 116 (bm 24 16383) HT_.out ?_
             refine pV_ 14 117 (bm 24 32767) HT_.out ?_
             refine pU_ 15 118 (bm 24 65535) HT_.out ?_
             refine pU_ 16 119 (bm 24 131071) HT_.out ?_
             refine pU_ 17 120 (bm 24 262143) HT_.out ?_
             refine pU_ 18 121 (bm 24 524287) HT_.out ?_
             refine pU_ 19 122 (bm 24 1048575) HT_.out ?_
             refine pU_ 20 123 (bm 24 2097151) HT_.out ?_
             refine pU_ 21 124 (bm 24 4194303) HT_.out ?_
             refine pU_ 22 125 (bm 24 8388607) HT_.out ?_
             refine pV_ 23 126 (bm 24 16777215) HT_.out ?_
             refine done_ (done_of HT_.out (by kernel_rfl)) ?_
             try go_wp2
             go_ret
             exact ⟨by first | rfl | (simp only [i64_w,i32_w] <;> rfl) | (simp [errW_none,errW_some] <;> rfl) | (simp [*,errW_none,errW_some] <;> rfl),bA⟩
           ·replace c79 := Bool.eq_false_iff.mpr c79
            subst c79
            rw [if_neg (show ¬ (false = true) by decide)] at H
            obtain rfl := Option.some.inj H
            have hnb101 := NB166_169.out
            have hnc101 := NB169_166.out
            obtain ⟨hcz102_0,hcz102_1,hcz102_2,hcz102_3,hcz102_4,hcz102_5,hcz102_6,hcz102_7,hcz102_8,hcz102_9⟩ := cl10 BK166.out
            obtain ⟨hfz102_0,hfz102_1,hfz102_2,hfz102_3,hfz102_4,hfz102_5,hfz102_6,hfz102_7,hfz102_8,hfz102_9⟩ := fz10 BK166.out
            have p180 : 0 ≤ (x7_3 : Int) := od
            have q180 : x7_3 < (l0_3.length : Int) := od
            obtain ⟨ad180,e180,hx180_0,hx180_1⟩ := at_T71 HR0_3.out x7_3 p180 q180
            cases e180
            replace hx180_0 := cb HB.out hx180_0
            replace hx180_1 := cb HB.out hx180_1
            replace p180 := eq_true p180
            replace q180 := eq_true q180
            try go_wp2_with (first | ((with_reducible refine gate_callee (f:=37) rfl ?_); refine goesL_ (some 98) rfl rfl Tryz.func37 (by kernel_rfl) rfl #[.string ((rd_T71 l0_3 x7_3).f1)] rfl mA ?_; (with_reducible refine (spec_l03ToKey.calls k3 ((rd_T71 l0_3 x7_3).f1) t181 t182 t183 false _ A78.out).mono ?_); rintro e w103 ⟨rfl,hb⟩; refine ⟨_,rfl,?_⟩; have n0_ := Aside0.mk (Kd.R_below (rA HO_4.out) hb); have n1_ := Aside0.mk (bb BK166.out hb); have n2_ := Aside0.mk (bb BK169.out hb); have n3_ := Aside0.mk (below_step bA hb); clear HO_4 BK166 BK169 HB; have HO_4 := n0_; have BK166 := n1_; have BK169 := n2_; have HB := n3_; clear n0_ n1_ n2_ n3_; (try clear hb); (try clear hb2); (try clear hk); (try clear hi)))
            have n0_ := Aside0.mk (Kd.R_drew HO_4.out)
            have n1_ := Aside0.mk (blk_drew BK166.out)
            have n2_ := Aside0.mk (blk_drew BK169.out)
            have n3_ := Aside0.mk (below_drew1 HB.out)
            clear HO_4 BK166 BK169 HB
            have HO_4 := n0_
            have BK166 := n1_
            have BK169 := n2_
            have HB := n3_
            clear n0_ n1_ n2_ n3_
            refine start_ (n:=24) (S:=fun w' => True) (ds := []) (bm 24 0) (by kernel_rfl) rfl rfl trivial (fun hHeld => ?_); refine with_tabW spec_StateOK.tab17 spec_StateOK.bits17 (fun HT_ HW_ => ?_)
            generalize w103.drew = w104 at HO_4 BK166 BK169 HB hHeld ⊢
            refine pV_ 0 103 (bm 24 1) HT_.out ?_
            refine pV_ 1 104 (bm 24 3) HT_.out ?_
            refine pV_ 2 105 (bm 24 7) HT_.out ?_
            refine pU_ 3 106 (bm 24 15) HT_.out ?_
            refine pU_ 4 107 (bm 24 31) HT_.out ?_
            refine pU_ 5 108 (bm 24 63) HT_.out ?_
            refine pU_ 6 109 (bm 24 127) HT_.out ?_
            refine pU_ 7 110 (bm 24 255) HT_.out ?_
            refine pU_ 8 111 (bm 24 511) HT_.out ?_
            refine pU_ 9 112 (bm 24 1023) HT_.out ?_
            refine pU_ 10 113 (bm 24 2047) HT_.out ?_
            refine pU_ 11 114 (bm 24 4095) HT_.out ?_
            refine pU_ 12 115 (bm 24 8191) HT_.out ?_
            refine pV_ 13 116 (bm 24 16383) HT_.out ?_
            refine pV_ 14 117 (bm 24 32767) HT_.out ?_
            refine pU_ 15 118 (bm 24 65535) HT_.out ?_
            refine pU_ 16 119 (bm 24 131071) HT_.out ?_
            refine pU_ 17 120 (bm 24 262143) HT_.out ?_
            refine pU_ 18 121 (bm 24 524287) HT_.out ?_
            refine pU_ 19 122 (bm 24 1048575) HT_.out ?_
            refine pU_ 20 123 (bm 24 2097151) HT_.out ?_
            refine pU_ 21 124 (bm 24 4194303) HT_.out ?_
            refine pU_ 22 125 (bm 24 8388607) HT_.out ?_
            refine pV_ 23 126 (bm 24 16777215) HT_.out ?_
            refine done_ (done_of HT_.out (by kernel_rfl)) ?_
            try go_wp2
            go_ret
            exact ⟨by first | rfl | (simp only [i64_w,i32_w] <;> rfl) | (simp [errW_none,errW_some] <;> rfl) | (simp [*,errW_none,errW_some] <;> rfl),bA⟩
          ·rw [if_neg c77] at H
           exact absurd H (by simp)
         ·rw [if_neg c76] at H
          have c76b0 : decide (x7_3 < (l0_3.length : Int)) = false := decide_eq_false c76
          clear c76
          have H' := Aside0.mk H
          clear H
          have hnb105 := NB166_169.out
          have hnc105 := NB169_166.out
          obtain ⟨hcz106_0,hcz106_1,hcz106_2,hcz106_3,hcz106_4,hcz106_5,hcz106_6,hcz106_7,hcz106_8,hcz106_9⟩ := cl10 BK166.out
          obtain ⟨hfz106_0,hfz106_1,hfz106_2,hfz106_3,hfz106_4,hfz106_5,hfz106_6,hfz106_7,hfz106_8,hfz106_9⟩ := fz10 BK166.out
          go_wp2
          go_loopg [12] k3 (fun kq v12 w' => ∃ (x12_4 : Int),v12 = .int .i64 x12_4 ∧ Aside0 (spec_StateOK.l2 kq x12_4 a0_0 a0_1 l0_2 l0_3 a0_4 a0_5 a0_6 a0_7 a0_8 a0_9 x170000_2 x170001_2 x170002_2 = some r) ∧ Aside0 (kq ≤ k3) ∧ Aside0 (w'.heap[gb166]? = some (.cells #[.int .i64 a0_0,.int .i64 a0_1,(.slice A0_2 l0_2.length c0_2),(.slice A0_3 l0_3.length c0_3),.int .i64 a0_4,.int .i64 a0_5,.int .i64 a0_6,.int .i64 a0_7,.int .i64 a0_8,.int .i64 a0_9] 35 (0,0))) ∧ Aside0 (w'.heap[gb169]? = some (.cells #[.int .i64 x170000_2,.int .i64 x170001_2,.int .i64 x170002_2] 24 (0,0))) ∧ Aside0 (Below w.heap.size w w'))
          case atStart => exact ⟨(0),(by first | rfl | (simp; done) | (simp [*]; done)),H',⟨Nat.le_refl _⟩,⟨kA BK166.out⟩,⟨kA BK169.out⟩,⟨bA⟩⟩
          case round =>
           clear H'
           try clear c1
           try clear p1
           try clear q1
           try clear hx1
           try clear p2
           try clear c3
           try clear p6
           try clear c7
           try clear c8
           try clear c9
           try clear c10
           try clear p18
           try clear q18
           try clear hx18
           try clear c34
           try clear c36
           try clear c37
           try clear p64
           try clear c76
           try clear c76b0
           try clear c77
           try clear c79
           try clear c81
           try clear c89
           try clear c97
           try clear c101
           try clear c105
           try clear hcz102_0 hcz102_1 hcz102_2 hcz102_3 hcz102_4 hcz102_5 hcz102_6 hcz102_7 hcz102_8 hcz102_9
           try clear hcz106_0 hcz106_1 hcz106_2 hcz106_3 hcz106_4 hcz106_5 hcz106_6 hcz106_7 hcz106_8 hcz106_9
           try clear hcz95_0 hcz95_1 hcz95_2 hcz95_3 hcz95_4 hcz95_5 hcz95_6 hcz95_7 hcz95_8 hcz95_9
           try clear hcz98_0 hcz98_1 hcz98_2 hcz98_3 hcz98_4 hcz98_5 hcz98_6 hcz98_7 hcz98_8 hcz98_9
           try clear hfz102_0 hfz102_1 hfz102_2 hfz102_3 hfz102_4 hfz102_5 hfz102_6 hfz102_7 hfz102_8 hfz102_9
           try clear hfz106_0 hfz106_1 hfz106_2 hfz106_3 hfz106_4 hfz106_5 hfz106_6 hfz106_7 hfz106_8 hfz106_9
           try clear hfz95_0 hfz95_1 hfz95_2 hfz95_3 hfz95_4 hfz95_5 hfz95_6 hfz95_7 hfz95_8 hfz95_9
           try clear hfz98_0 hfz98_1 hfz98_2 hfz98_3 hfz98_4 hfz98_5 hfz98_6 hfz98_7 hfz98_8 hfz98_9
           try clear hx180_0
           try clear hx180_1
           try clear hx185_0
           try clear hx185_1
           try clear hx189_0
           try clear hx189_1
           try clear p180
           try clear p185
           try clear p189
           try clear q180
           try clear q185
           try clear q189
           obtain ⟨x12_4,rfl,HA,HK4,BK166,BK169,HB⟩ := hrel
           cases gk with
           | zero => exact absurd HA.out (by simp [spec_StateOK.l2])
           | succ k4 =>
            have H := HA.out
            clear HA
            simp only [spec_StateOK.l2] at H
            by_cases c107 : x12_4 < 3
            ·rw [if_pos c107] at H
             have c107b0 : decide (x12_4 < 3) = true := decide_eq_true c107
             clear c107
             by_cases c108 : 0 ≤ x12_4
             ·rw [if_pos c108] at H
              have c108b0 : decide (0 ≤ x12_4) = true := decide_eq_true c108
              clear c108
              replace H := Option.bind_eq_some_iff.mp H
              obtain ⟨t193,A1090,H⟩ := H
              try dsimp only at H
              have A109 := Aside0.mk A1090
              clear A1090
              by_cases c110 : t193 = true
              ·subst c110
               rw [if_pos rfl] at H
               by_cases c111 : (at3 x12_4 a0_7 a0_8 a0_9) = (at3 x12_4 x170000_2 x170001_2 x170002_2)
               ·rw [if_pos c111] at H
                have c111b0 : ((at3 x12_4 a0_7 a0_8 a0_9) == (at3 x12_4 x170000_2 x170001_2 x170002_2)) = true := beq_iff_eq.mpr c111
                have c111b1 : ((at3 x12_4 a0_7 a0_8 a0_9) != (at3 x12_4 x170000_2 x170001_2 x170002_2)) = false := bne_eq_false_iff_eq.mpr c111
                clear c111
                have H' := Aside0.mk H
                clear H
                try go_wp2
                have n0_ := Aside0.mk (blk_drew BK166.out)
                have n1_ := Aside0.mk (blk_drew BK169.out)
                have n2_ := Aside0.mk (below_drew1 HB.out)
                clear BK166 BK169 HB
                have BK166 := n0_
                have BK169 := n1_
                have HB := n2_
                clear n0_ n1_ n2_
                have hia113 := ia_dyn (P:=Tryz.prog) (t:=24) (e:=3) Tryz.underlying24 (by kernel_rfl) (by kernel_rfl) gb166 4 x12_4 (od) (od)
                refine start_ (n:=16) (S:=fun w' => w'.cell? ⟨gb166,0,none⟩ = some (.int .i64 a0_0) ∧ w'.cell? ⟨gb166,1,none⟩ = some (.int .i64 a0_1) ∧ w'.cell? ⟨gb166,2,none⟩ = some (.slice A0_2 l0_2.length c0_2) ∧ w'.cell? ⟨gb166,3,none⟩ = some (.slice A0_3 l0_3.length c0_3) ∧ w'.cell? ⟨gb166,4,none⟩ = some (.int .i64 a0_4) ∧ w'.cell? ⟨gb166,5,none⟩ = some (.int .i64 a0_5) ∧ w'.cell? ⟨gb166,6,none⟩ = some (.int .i64 a0_6) ∧ w'.cell? ⟨gb166,7,none⟩ = some (.int .i64 a0_7) ∧ w'.cell? ⟨gb166,8,none⟩ = some (.int .i64 a0_8) ∧ w'.cell? ⟨gb166,9,none⟩ = some (.int .i64 a0_9) ∧ w'.cell? ⟨gb169,0,none⟩ = some (.int .i64 x170000_2) ∧ w'.cell? ⟨gb169,1,none⟩ = some (.int .i64 x170001_2) ∧ w'.cell? ⟨gb169,2,none⟩ = some (.int .i64 x170002_2) ∧ w'.cell? ⟨gb166,4 + x12_4.toNat,none⟩ = some (.int .i64 (at3 x12_4 a0_4 a0_5 a0_6)) ∧ w'.cell? ⟨gb166,7 + x12_4.toNat,none⟩ = some (.int .i64 (at3 x12_4 a0_7 a0_8 a0_9)) ∧ w'.cell? ⟨gb169,x12_4.toNat,none⟩ = some (.int .i64 (at3 x12_4 x170000_2 x170001_2 x170002_2))) (ds := []) (bm 16 0) (by kernel_rfl) rfl rfl ⟨bl BK166 0,bl BK166 1,bl BK166 2,bl BK166 3,bl BK166 4,bl BK166 5,bl BK166 6,bl BK166 7,bl BK166 8,bl BK166 9,bl BK169 0,bl BK169 1,bl BK169 2,at3_cell (od) (od) (bl BK166 4) (bl BK166 5) (bl BK166 6),at3_cell (od) (od) (bl BK166 7) (bl BK166 8) (bl BK166 9),at3_cell0 (od) (od) (bl BK169 0) (bl BK169 1) (bl BK169 2)⟩ (fun hHeld => ?_); refine with_tabW spec_StateOK.tab23 spec_StateOK.bits23 (fun HT_ HW_ => ?_)
                generalize wr.drew = w112 at BK166 BK169 HB hHeld ⊢
                refine pV_ 0 140 (bm 16 1) HT_.out ?_
                refine pV_ 1 141 (bm 16 3) HT_.out ?_
                refine pV_ 2 142 (bm 16 7) HT_.out ?_
                refine take_ (i:=3) (N:=some 143) (v:=?_) (a':=?_) (bm 16 15) rfl rfl (take_ofW HT_.out HW_.out (by kernel_rfl)) (fun _ _ _ h => h) (Or.inl ⟨by rfl,?_⟩) hHeld ?_ ?_
                rotate_left
                ·rintro w' ⟨s0,s1,s2,s3,s4,s5,s6,s7,s8,s9,s10,s11,s12,s13,s14,s15⟩
                 go_simp
                 with_reducible rfl
                rotate_left
                ·simp only [Act.put,setIfInBounds_toArray,set_cons_zero,set_cons_succ,i64_w,i32_w]
                 rfl
                refine one_ (i:=4) (N:=some 144) (bm 16 31) rfl rfl (one_of HT_.out (by kernel_rfl)) (by decide) (fun K hK => ?_)
                refine goes_ Tryz.func34 (by kernel_rfl) rfl #[.int .i64 (at3 x12_4 a0_4 a0_5 a0_6),.int .i64 0,.int .i64 100000] (by rfl) rfl rfl mA ?_
                with_reducible refine (spec_l01In.calls (at3 x12_4 a0_4 a0_5 a0_6) 0 100000 true _ A109.out).mono ?_
                rintro e w' ⟨rfl,⟨nd,rfl⟩⟩
                refine ⟨_,rfl,?_⟩
                have hia114 := ia_dyn (P:=Tryz.prog) (t:=24) (e:=3) Tryz.underlying24 (by kernel_rfl) (by kernel_rfl) gb166 7 x12_4 (od) (od)
                have hia115 := ia_dyn0 (P:=Tryz.prog) (t:=24) (e:=3) Tryz.underlying24 (by kernel_rfl) (by kernel_rfl) gb169 x12_4 (od) (od)
                refine hK.out _ _ ⟨bl BK166 0,bl BK166 1,bl BK166 2,bl BK166 3,bl BK166 4,bl BK166 5,bl BK166 6,bl BK166 7,bl BK166 8,bl BK166 9,bl BK169 0,bl BK169 1,bl BK169 2,at3_cell (od) (od) (bl BK166 4) (bl BK166 5) (bl BK166 6),at3_cell (od) (od) (bl BK166 7) (bl BK166 8) (bl BK166 9),at3_cell0 (od) (od) (bl BK169 0) (bl BK169 1) (bl BK169 2)⟩ (fun hHeld => ?_)
                clear hK K
                refine norm_ (a':=?_) ?_ ?_
                rotate_left
                ·show Act.put _ (some 144) _ = _
                 simp only [Act.put,setIfInBounds_toArray,set_cons_zero,set_cons_succ,i64_w,i32_w]
                 rfl
                refine pV_ 5 145 (bm 16 63) HT_.out ?_
                refine pV_ 6 146 (bm 16 127) HT_.out ?_
                refine pV_ 7 147 (bm 16 255) HT_.out ?_
                refine pV_ 8 148 (bm 16 511) HT_.out ?_
                refine pV_ 9 149 (bm 16 1023) HT_.out ?_
                refine pV_ 11 151 (bm 16 3071) HT_.out ?_
                refine pV_ 12 152 (bm 16 7167) HT_.out ?_
                refine take_ (i:=10) (N:=some 150) (v:=?_) (a':=?_) (bm 16 8191) rfl rfl (take_ofW HT_.out HW_.out (by kernel_rfl)) (fun _ _ _ h => h) (Or.inl ⟨by rfl,?_⟩) hHeld ?_ ?_
                rotate_left
                ·rintro w' ⟨s0,s1,s2,s3,s4,s5,s6,s7,s8,s9,s10,s11,s12,s13,s14,s15⟩
                 go_simp
                 with_reducible rfl
                rotate_left
                ·simp only [Act.put,setIfInBounds_toArray,set_cons_zero,set_cons_succ,i64_w,i32_w]
                 rfl
                refine take_ (i:=13) (N:=some 153) (v:=?_) (a':=?_) (bm 16 16383) rfl rfl (take_ofW HT_.out HW_.out (by kernel_rfl)) (fun _ _ _ h => h) (Or.inl ⟨by rfl,?_⟩) hHeld ?_ ?_
                rotate_left
                ·rintro w' ⟨s0,s1,s2,s3,s4,s5,s6,s7,s8,s9,s10,s11,s12,s13,s14,s15⟩
                 go_simp
                 with_reducible rfl
                rotate_left
                ·simp only [Act.put,setIfInBounds_toArray,set_cons_zero,set_cons_succ,i64_w,i32_w]
                 rfl
                refine pV_ 14 154 (bm 16 32767) HT_.out ?_
                refine pV_ 15 155 (bm 16 65535) HT_.out ?_
                refine done_ (done_of HT_.out (by kernel_rfl)) ?_
                try go_wp2
                go_roundg k4
                case measure => have := HJ1.out; have := HK2.out; have := HK3.out; have := HK4.out; omega
                case rel => exact ⟨(wrap64 (x12_4 + 1)),(by first | rfl | (simp; done) | (simp [*]; done)),H',⟨by have := HJ1.out; have := HK2.out; have := HK3.out; have := HK4.out; omega⟩,⟨kA BK166.out⟩,⟨kA BK169.out⟩,⟨bA⟩⟩
               ·rw [if_neg c111] at H
                have c111b0 : ((at3 x12_4 a0_7 a0_8 a0_9) == (at3 x12_4 x170000_2 x170001_2 x170002_2)) = false := beq_eq_false_iff_ne.mpr c111
                have c111b1 : ((at3 x12_4 a0_7 a0_8 a0_9) != (at3 x12_4 x170000_2 x170001_2 x170002_2)) = true := bne_iff_ne.mpr c111
                obtain rfl := Option.some.inj H
                try go_wp2
                have n0_ := Aside0.mk (blk_drew BK166.out)
                have n1_ := Aside0.mk (blk_drew BK169.out)
                have n2_ := Aside0.mk (below_drew1 HB.out)
                clear BK166 BK169 HB
                have BK166 := n0_
                have BK169 := n1_
                have HB := n2_
                clear n0_ n1_ n2_
                have hia117 := ia_dyn (P:=Tryz.prog) (t:=24) (e:=3) Tryz.underlying24 (by kernel_rfl) (by kernel_rfl) gb166 4 x12_4 (od) (od)
                refine start_ (n:=16) (S:=fun w' => w'.cell? ⟨gb166,0,none⟩ = some (.int .i64 a0_0) ∧ w'.cell? ⟨gb166,1,none⟩ = some (.int .i64 a0_1) ∧ w'.cell? ⟨gb166,2,none⟩ = some (.slice A0_2 l0_2.length c0_2) ∧ w'.cell? ⟨gb166,3,none⟩ = some (.slice A0_3 l0_3.length c0_3) ∧ w'.cell? ⟨gb166,4,none⟩ = some (.int .i64 a0_4) ∧ w'.cell? ⟨gb166,5,none⟩ = some (.int .i64 a0_5) ∧ w'.cell? ⟨gb166,6,none⟩ = some (.int .i64 a0_6) ∧ w'.cell? ⟨gb166,7,none⟩ = some (.int .i64 a0_7) ∧ w'.cell? ⟨gb166,8,none⟩ = some (.int .i64 a0_8) ∧ w'.cell? ⟨gb166,9,none⟩ = some (.int .i64 a0_9) ∧ w'.cell? ⟨gb169,0,none⟩ = some (.int .i64 x170000_2) ∧ w'.cell? ⟨gb169,1,none⟩ = some (.int .i64 x170001_2) ∧ w'.cell? ⟨gb169,2,none⟩ = some (.int .i64 x170002_2) ∧ w'.cell? ⟨gb166,4 + x12_4.toNat,none⟩ = some (.int .i64 (at3 x12_4 a0_4 a0_5 a0_6)) ∧ w'.cell? ⟨gb166,7 + x12_4.toNat,none⟩ = some (.int .i64 (at3 x12_4 a0_7 a0_8 a0_9)) ∧ w'.cell? ⟨gb169,x12_4.toNat,none⟩ = some (.int .i64 (at3 x12_4 x170000_2 x170001_2 x170002_2))) (ds := []) (bm 16 0) (by kernel_rfl) rfl rfl ⟨bl BK166 0,bl BK166 1,bl BK166 2,bl BK166 3,bl BK166 4,bl BK166 5,bl BK166 6,bl BK166 7,bl BK166 8,bl BK166 9,bl BK169 0,bl BK169 1,bl BK169 2,at3_cell (od) (od) (bl BK166 4) (bl BK166 5) (bl BK166 6),at3_cell (od) (od) (bl BK166 7) (bl BK166 8) (bl BK166 9),at3_cell0 (od) (od) (bl BK169 0) (bl BK169 1) (bl BK169 2)⟩ (fun hHeld => ?_); refine with_tabW spec_StateOK.tab23 spec_StateOK.bits23 (fun HT_ HW_ => ?_)
                generalize wr.drew = w116 at BK166 BK169 HB hHeld ⊢
                refine pV_ 0 140 (bm 16 1) HT_.out ?_
                refine pV_ 1 141 (bm 16 3) HT_.out ?_
                refine pV_ 2 142 (bm 16 7) HT_.out ?_
                refine take_ (i:=3) (N:=some 143) (v:=?_) (a':=?_) (bm 16 15) rfl rfl (take_ofW HT_.out HW_.out (by kernel_rfl)) (fun _ _ _ h => h) (Or.inl ⟨by rfl,?_⟩) hHeld ?_ ?_
                rotate_left
                ·rintro w' ⟨s0,s1,s2,s3,s4,s5,s6,s7,s8,s9,s10,s11,s12,s13,s14,s15⟩
                 go_simp
                 with_reducible rfl
                rotate_left
                ·simp only [Act.put,setIfInBounds_toArray,set_cons_zero,set_cons_succ,i64_w,i32_w]
                 rfl
                refine one_ (i:=4) (N:=some 144) (bm 16 31) rfl rfl (one_of HT_.out (by kernel_rfl)) (by decide) (fun K hK => ?_)
                refine goes_ Tryz.func34 (by kernel_rfl) rfl #[.int .i64 (at3 x12_4 a0_4 a0_5 a0_6),.int .i64 0,.int .i64 100000] (by rfl) rfl rfl mA ?_
                with_reducible refine (spec_l01In.calls (at3 x12_4 a0_4 a0_5 a0_6) 0 100000 true _ A109.out).mono ?_
                rintro e w' ⟨rfl,⟨nd,rfl⟩⟩
                refine ⟨_,rfl,?_⟩
                have hia118 := ia_dyn (P:=Tryz.prog) (t:=24) (e:=3) Tryz.underlying24 (by kernel_rfl) (by kernel_rfl) gb166 7 x12_4 (od) (od)
                have hia119 := ia_dyn0 (P:=Tryz.prog) (t:=24) (e:=3) Tryz.underlying24 (by kernel_rfl) (by kernel_rfl) gb169 x12_4 (od) (od)
                refine hK.out _ _ ⟨bl BK166 0,bl BK166 1,bl BK166 2,bl BK166 3,bl BK166 4,bl BK166 5,bl BK166 6,bl BK166 7,bl BK166 8,bl BK166 9,bl BK169 0,bl BK169 1,bl BK169 2,at3_cell (od) (od) (bl BK166 4) (bl BK166 5) (bl BK166 6),at3_cell (od) (od) (bl BK166 7) (bl BK166 8) (bl BK166 9),at3_cell0 (od) (od) (bl BK169 0) (bl BK169 1) (bl BK169 2)⟩ (fun hHeld => ?_)
                clear hK K
                refine norm_ (a':=?_) ?_ ?_
                rotate_left
                ·show Act.put _ (some 144) _ = _
                 simp only [Act.put,setIfInBounds_toArray,set_cons_zero,set_cons_succ,i64_w,i32_w]
                 rfl
                refine pV_ 5 145 (bm 16 63) HT_.out ?_
                refine pV_ 6 146 (bm 16 127) HT_.out ?_
                refine pV_ 7 147 (bm 16 255) HT_.out ?_
                refine pV_ 8 148 (bm 16 511) HT_.out ?_
                refine pV_ 9 149 (bm 16 1023) HT_.out ?_
                refine pV_ 11 151 (bm 16 3071) HT_.out ?_
                refine pV_ 12 152 (bm 16 7167) HT_.out ?_
                refine take_ (i:=10) (N:=some 150) (v:=?_) (a':=?_) (bm 16 8191) rfl rfl (take_ofW HT_.out HW_.out (by kernel_rfl)) (fun _ _ _ h => h) (Or.inl ⟨by rfl,?_⟩) hHeld ?_ ?_
                rotate_left
                ·rintro w' ⟨s0,s1,s2,s3,s4,s5,s6,s7,s8,s9,s10,s11,s12,s13,s14,s15⟩
                 go_simp
                 with_reducible rfl
                rotate_left
                ·simp only [Act.put,setIfInBounds_toArray,set_cons_zero,set_cons_succ,i64_w,i32_w]
                 rfl
                refine take_ (i:=13) (N:=some 153) (v:=?_) (a':=?_) (bm 16 16383) rfl rfl (take_ofW HT_.out HW_.out (by kernel_rfl)) (fun _ _ _ h => h) (Or.inl ⟨by rfl,?_⟩) hHeld ?_ ?_
                rotate_left
                ·rintro w' ⟨s0,s1,s2,s3,s4,s5,s6,s7,s8,s9,s10,s11,s12,s13,s14,s15⟩
                 go_simp
                 with_reducible rfl
                rotate_left
                ·simp only [Act.put,setIfInBounds_toArray,set_cons_zero,set_cons_succ,i64_w,i32_w]
                 rfl
                refine pV_ 14 154 (bm 16 32767) HT_.out ?_
                refine pV_ 15 155 (bm 16 65535) HT_.out ?_
                refine done_ (done_of HT_.out (by kernel_rfl)) ?_
                try go_wp2
                go_ret
                exact ⟨by first | rfl | (simp only [i64_w,i32_w] <;> rfl) | (simp [errW_none,errW_some] <;> rfl) | (simp [*,errW_none,errW_some] <;> rfl),bA⟩
              ·replace c110 := Bool.eq_false_iff.mpr c110
               subst c110
               rw [if_neg (show ¬ (false = true) by decide)] at H
               obtain rfl := Option.some.inj H
               try go_wp2
               have n0_ := Aside0.mk (blk_drew BK166.out)
               have n1_ := Aside0.mk (blk_drew BK169.out)
               have n2_ := Aside0.mk (below_drew1 HB.out)
               clear BK166 BK169 HB
               have BK166 := n0_
               have BK169 := n1_
               have HB := n2_
               clear n0_ n1_ n2_
               have hia121 := ia_dyn (P:=Tryz.prog) (t:=24) (e:=3) Tryz.underlying24 (by kernel_rfl) (by kernel_rfl) gb166 4 x12_4 (od) (od)
               refine start_ (n:=16) (S:=fun w' => w'.cell? ⟨gb166,0,none⟩ = some (.int .i64 a0_0) ∧ w'.cell? ⟨gb166,1,none⟩ = some (.int .i64 a0_1) ∧ w'.cell? ⟨gb166,2,none⟩ = some (.slice A0_2 l0_2.length c0_2) ∧ w'.cell? ⟨gb166,3,none⟩ = some (.slice A0_3 l0_3.length c0_3) ∧ w'.cell? ⟨gb166,4,none⟩ = some (.int .i64 a0_4) ∧ w'.cell? ⟨gb166,5,none⟩ = some (.int .i64 a0_5) ∧ w'.cell? ⟨gb166,6,none⟩ = some (.int .i64 a0_6) ∧ w'.cell? ⟨gb166,7,none⟩ = some (.int .i64 a0_7) ∧ w'.cell? ⟨gb166,8,none⟩ = some (.int .i64 a0_8) ∧ w'.cell? ⟨gb166,9,none⟩ = some (.int .i64 a0_9) ∧ w'.cell? ⟨gb166,4 + x12_4.toNat,none⟩ = some (.int .i64 (at3 x12_4 a0_4 a0_5 a0_6))) (ds := []) (bm 16 0) (by kernel_rfl) rfl rfl ⟨bl BK166 0,bl BK166 1,bl BK166 2,bl BK166 3,bl BK166 4,bl BK166 5,bl BK166 6,bl BK166 7,bl BK166 8,bl BK166 9,at3_cell (od) (od) (bl BK166 4) (bl BK166 5) (bl BK166 6)⟩ (fun hHeld => ?_); refine with_tabW spec_StateOK.tab23 spec_StateOK.bits23 (fun HT_ HW_ => ?_)
               generalize wr.drew = w120 at BK166 BK169 HB hHeld ⊢
               refine pV_ 0 140 (bm 16 1) HT_.out ?_
               refine pV_ 1 141 (bm 16 3) HT_.out ?_
               refine pV_ 2 142 (bm 16 7) HT_.out ?_
               refine take_ (i:=3) (N:=some 143) (v:=?_) (a':=?_) (bm 16 15) rfl rfl (take_ofW HT_.out HW_.out (by kernel_rfl)) (fun _ _ _ h => h) (Or.inl ⟨by rfl,?_⟩) hHeld ?_ ?_
               rotate_left
               ·rintro w' ⟨s0,s1,s2,s3,s4,s5,s6,s7,s8,s9,s10⟩
                go_simp
                with_reducible rfl
               rotate_left
               ·simp only [Act.put,setIfInBounds_toArray,set_cons_zero,set_cons_succ,i64_w,i32_w]
                rfl
               refine one_ (i:=4) (N:=some 144) (bm 16 31) rfl rfl (one_of HT_.out (by kernel_rfl)) (by decide) (fun K hK => ?_)
               refine goes_ Tryz.func34 (by kernel_rfl) rfl #[.int .i64 (at3 x12_4 a0_4 a0_5 a0_6),.int .i64 0,.int .i64 100000] (by rfl) rfl rfl mA ?_
               with_reducible refine (spec_l01In.calls (at3 x12_4 a0_4 a0_5 a0_6) 0 100000 false _ A109.out).mono ?_
               rintro e w' ⟨rfl,⟨nd,rfl⟩⟩
               refine ⟨_,rfl,?_⟩
               refine hK.out _ _ ⟨bl BK166 0,bl BK166 1,bl BK166 2,bl BK166 3,bl BK166 4,bl BK166 5,bl BK166 6,bl BK166 7,bl BK166 8,bl BK166 9,at3_cell (od) (od) (bl BK166 4) (bl BK166 5) (bl BK166 6)⟩ (fun hHeld => ?_)
               clear hK K
               refine norm_ (a':=?_) ?_ ?_
               rotate_left
               ·show Act.put _ (some 144) _ = _
                simp only [Act.put,setIfInBounds_toArray,set_cons_zero,set_cons_succ,i64_w,i32_w]
                rfl
               refine pV_ 5 145 (bm 16 63) HT_.out ?_
               refine pV_ 6 146 (bm 16 127) HT_.out ?_
               refine pU_ 7 147 (bm 16 255) HT_.out ?_
               refine pU_ 8 148 (bm 16 511) HT_.out ?_
               refine pU_ 9 149 (bm 16 1023) HT_.out ?_
               refine pU_ 10 150 (bm 16 2047) HT_.out ?_
               refine pU_ 11 151 (bm 16 4095) HT_.out ?_
               refine pU_ 12 152 (bm 16 8191) HT_.out ?_
               refine pU_ 13 153 (bm 16 16383) HT_.out ?_
               refine pU_ 14 154 (bm 16 32767) HT_.out ?_
               refine pV_ 15 155 (bm 16 65535) HT_.out ?_
               refine done_ (done_of HT_.out (by kernel_rfl)) ?_
               try go_wp2
               go_ret
               exact ⟨by first | rfl | (simp only [i64_w,i32_w] <;> rfl) | (simp [errW_none,errW_some] <;> rfl) | (simp [*,errW_none,errW_some] <;> rfl),bA⟩
             ·rw [if_neg c108] at H
              exact absurd H (by simp)
            ·rw [if_neg c107] at H
             have c107b0 : decide (x12_4 < 3) = false := decide_eq_false c107
             clear c107
             obtain rfl := Option.some.inj H
             go_wp2
             go_ret
             exact ⟨by first | rfl | (simp only [i64_w,i32_w] <;> rfl) | (simp [errW_none,errW_some] <;> rfl) | (simp [*,errW_none,errW_some] <;> rfl),bA⟩

end Go.Proofs.YtfondhlknkhmmaaGreatDoor.XFnExactOrphansOf
