-- Printed by this session's own program wip/tools/xprint.py, which widens the kit's print. Not trusted: Lean checks it.
import Derived.Test.YtfondhlknkhmmaaDoorXFnExactExpiredEntryx0
import Derived.Test.YtfondhlknkhmmaaDoorXFnExactExpiredEntryx3
import Derived.Test.YtfondhlknkhmmaaDoorXFnExactExpiredEntryx5
namespace Go.Proofs.YtfondhlknkhmmaaDoor.XFnExactExpiredEntry
open List (setIfInBounds_toArray set_cons_zero set_cons_succ)
open Go.RowKit Go.Proofs.YtfondhlknkhmmaaDoorW.PrintWords Go.Proofs.YtfondhlknkhmmaaDoorW.PrintLast Go.Proofs.YtfondhlknkhmmaaDoorW.PrintMore
attribute [local go_sem] max2_int min2_int max_two min_two max_three min_three max_four min_four   -- for this text's walks alone
set_option linter.unusedVariables false
set_option linter.unusedSimpArgs false

/-! ### spec_StateOK: function 7 -/
mutual
def spec_StateOK.j0 : Nat → Bool → Int → Int → List (S39) → List (S55) → Int → Int → Int → Int → Int → Int → Option (Bool)
 | 0,_,_,_,_,_,_,_,_,_,_,_ => none
 | k + 1,x32,x219000,x219001,x219002,x219003,x219004,x219005,x219006,x219007,x219008,x219009 => if x32 = true then (some false) else (spec_StateOK.l0 k (([] : List ByteArray)) 0 x219000 x219001 x219002 x219003 x219004 x219005 x219006 x219007 x219008 x219009 x219004 x219005 x219006)
def spec_StateOK.l0 : Nat → List ByteArray → Int → Int → Int → List (S39) → List (S55) → Int → Int → Int → Int → Int → Int → Int → Int → Int → Option (Bool)
 | 0,_,_,_,_,_,_,_,_,_,_,_,_,_,_,_ => none
 | k + 1,x4,x5,x219000,x219001,x219002,x219003,x219004,x219005,x219006,x219007,x219008,x219009,x222000,x222001,x222002 => if x5 < (x219002.length : Int) then (if 0 ≤ x5 then ((spec_l06Tiered.f k 0 0 ((rd_T39 x219002 x5).f0) ((rd_T39 x219002 x5).f1) ((rd_T39 x219002 x5).f2) ((rd_T39 x219002 x5).f3) 0).bind fun t227 => (if t227 = true then (if 0 ≤ ((rd_T39 x219002 x5).f0) then (if ((rd_T39 x219002 x5).f0) < 3 then (if ((rd_T39 x219002 x5).f1) = (at3 ((rd_T39 x219002 x5).f0) x222000 x222001 x222002) then ((spec_l06In.f k x4 ((rd_T39 x219002 x5).f3)).bind fun t228 => (if t228 = true then (some false) else (if ((rd_T39 x219002 x5).f0) = 0 then (if x4.length < 8796093022208 then (spec_StateOK.l0 k (x4 ++ [(rd_T39 x219002 x5).f3]) (wrap64 (x5 + 1)) x219000 x219001 x219002 x219003 x219004 x219005 x219006 x219007 x219008 x219009 ((rd_T39 x219002 x5).f2) x222001 x222002) else (none)) else (if ((rd_T39 x219002 x5).f0) = 1 then (if x4.length < 8796093022208 then (spec_StateOK.l0 k (x4 ++ [(rd_T39 x219002 x5).f3]) (wrap64 (x5 + 1)) x219000 x219001 x219002 x219003 x219004 x219005 x219006 x219007 x219008 x219009 x222000 ((rd_T39 x219002 x5).f2) x222002) else (none)) else (if ((rd_T39 x219002 x5).f0) = 2 then (if x4.length < 8796093022208 then (spec_StateOK.l0 k (x4 ++ [(rd_T39 x219002 x5).f3]) (wrap64 (x5 + 1)) x219000 x219001 x219002 x219003 x219004 x219005 x219006 x219007 x219008 x219009 x222000 x222001 ((rd_T39 x219002 x5).f2)) else (none)) else (none)))))) else (some false)) else (none)) else (none)) else (some false))) else (none)) else (spec_StateOK.l1 k x4 0 x219000 x219001 x219002 x219003 x219004 x219005 x219006 x219007 x219008 x219009 x222000 x222001 x222002)
def spec_StateOK.l1 : Nat → List ByteArray → Int → Int → Int → List (S39) → List (S55) → Int → Int → Int → Int → Int → Int → Int → Int → Int → Option (Bool)
 | 0,_,_,_,_,_,_,_,_,_,_,_,_,_,_,_ => none
 | k + 1,x4,x7,x219000,x219001,x219002,x219003,x219004,x219005,x219006,x219007,x219008,x219009,x222000,x222001,x222002 => if x7 < (x219003.length : Int) then (if 0 ≤ x7 then ((spec_l03ToKey.f k ((rd_T55 x219003 x7).f1)).bind fun bt239 => (if bt239.2.2.2 = true then ((spec_l01In.f ((rd_T55 x219003 x7).f0) 1 x219000).bind fun t244 => (if t244 = true then ((spec_l06In.f k x4 ((rd_T55 x219003 x7).f1)).bind fun t246 => (if t246 = true then (some false) else (if x4.length < 8796093022208 then (spec_StateOK.l1 k (x4 ++ [(rd_T55 x219003 x7).f1]) (wrap64 (x7 + 1)) x219000 x219001 x219002 x219003 x219004 x219005 x219006 x219007 x219008 x219009 x222000 x222001 x222002) else (none)))) else (some false))) else (some false))) else (none)) else (spec_StateOK.l2 k 0 x219000 x219001 x219002 x219003 x219004 x219005 x219006 x219007 x219008 x219009 x222000 x222001 x222002)
def spec_StateOK.l2 : Nat → Int → Int → Int → List (S39) → List (S55) → Int → Int → Int → Int → Int → Int → Int → Int → Int → Option (Bool)
 | 0,_,_,_,_,_,_,_,_,_,_,_,_,_,_ => none
 | k + 1,x12,x219000,x219001,x219002,x219003,x219004,x219005,x219006,x219007,x219008,x219009,x222000,x222001,x222002 => if x12 < 3 then (if 0 ≤ x12 then ((spec_l01In.f (at3 x12 x219004 x219005 x219006) 0 100000).bind fun t251 => (if t251 = true then (if (at3 x12 x219007 x219008 x219009) = (at3 x12 x222000 x222001 x222002) then (spec_StateOK.l2 k (wrap64 (x12 + 1)) x219000 x219001 x219002 x219003 x219004 x219005 x219006 x219007 x219008 x219009 x222000 x222001 x222002) else (some false)) else (some false))) else (none)) else (some true)
end
def spec_StateOK.f (k : Nat) (a0_0 : Int) (a0_1 : Int) (l0_2 : List (S39)) (l0_3 : List (S55)) (a0_4 : Int) (a0_5 : Int) (a0_6 : Int) (a0_7 : Int) (a0_8 : Int) (a0_9 : Int) : Option (Bool) := (spec_l01In.f a0_0 0 999999).bind fun t219 => (if t219 = true then ((spec_l01In.f a0_1 0 999999).bind fun t220 => (if t220 = true then (spec_StateOK.j0 k (decide ((wrap64 ((l0_2.length : Int) + (l0_3.length : Int))) > 4096)) a0_0 a0_1 l0_2 l0_3 a0_4 a0_5 a0_6 a0_7 a0_8 a0_9) else (spec_StateOK.j0 k true a0_0 a0_1 l0_2 l0_3 a0_4 a0_5 a0_6 a0_7 a0_8 a0_9))) else (spec_StateOK.j0 k true a0_0 a0_1 l0_2 l0_3 a0_4 a0_5 a0_6 a0_7 a0_8 a0_9))
theorem spec_StateOK.mono_l : ∀ k,(∀ y0 y1 y2 y3 y4 y5 y6 y7 y8 y9 y10,LeO (spec_StateOK.j0 k y0 y1 y2 y3 y4 y5 y6 y7 y8 y9 y10) (spec_StateOK.j0 (k + 1) y0 y1 y2 y3 y4 y5 y6 y7 y8 y9 y10)) ∧ (∀ y0 y1 y2 y3 y4 y5 y6 y7 y8 y9 y10 y11 y12 y13 y14,LeO (spec_StateOK.l0 k y0 y1 y2 y3 y4 y5 y6 y7 y8 y9 y10 y11 y12 y13 y14) (spec_StateOK.l0 (k + 1) y0 y1 y2 y3 y4 y5 y6 y7 y8 y9 y10 y11 y12 y13 y14)) ∧ (∀ y0 y1 y2 y3 y4 y5 y6 y7 y8 y9 y10 y11 y12 y13 y14,LeO (spec_StateOK.l1 k y0 y1 y2 y3 y4 y5 y6 y7 y8 y9 y10 y11 y12 y13 y14) (spec_StateOK.l1 (k + 1) y0 y1 y2 y3 y4 y5 y6 y7 y8 y9 y10 y11 y12 y13 y14)) ∧ (∀ y0 y1 y2 y3 y4 y5 y6 y7 y8 y9 y10 y11 y12 y13,LeO (spec_StateOK.l2 k y0 y1 y2 y3 y4 y5 y6 y7 y8 y9 y10 y11 y12 y13) (spec_StateOK.l2 (k + 1) y0 y1 y2 y3 y4 y5 y6 y7 y8 y9 y10 y11 y12 y13))
 | 0 => ⟨fun _ _ _ _ _ _ _ _ _ _ _ r h => by simp [spec_StateOK.j0] at h,fun _ _ _ _ _ _ _ _ _ _ _ _ _ _ _ r h => by simp [spec_StateOK.l0] at h,fun _ _ _ _ _ _ _ _ _ _ _ _ _ _ _ r h => by simp [spec_StateOK.l1] at h,fun _ _ _ _ _ _ _ _ _ _ _ _ _ _ r h => by simp [spec_StateOK.l2] at h⟩
 | k + 1 => by
  obtain ⟨ih0,ih1,ih2,ih3⟩ := spec_StateOK.mono_l k
  refine ⟨?_,?_,?_,?_⟩
  ·intro y0 y1 y2 y3 y4 y5 y6 y7 y8 y9 y10
   unfold spec_StateOK.j0
   repeat' first
   | (with_reducible exact ih0 _ _ _ _ _ _ _ _ _ _ _)
   | (with_reducible exact ih1 _ _ _ _ _ _ _ _ _ _ _ _ _ _ _)
   | (with_reducible exact ih2 _ _ _ _ _ _ _ _ _ _ _ _ _ _ _)
   | (with_reducible exact ih3 _ _ _ _ _ _ _ _ _ _ _ _ _ _)
   | (with_reducible exact spec_l03ToKey.mono _ _)
   | (with_reducible exact spec_l06In.mono _ _ _)
   | (with_reducible exact spec_l06Tiered.mono _ _ _ _ _ _ _ _)
   | (with_reducible exact LeO.refl _)
   | (with_reducible exact LeO.none _)
   | (with_reducible refine LeO.ite ?_ ?_)
   | (with_reducible refine LeO.bind ?_ (fun _ => ?_))
   | exact ih0 _ _ _ _ _ _ _ _ _ _ _
   | exact ih1 _ _ _ _ _ _ _ _ _ _ _ _ _ _ _
   | exact ih2 _ _ _ _ _ _ _ _ _ _ _ _ _ _ _
   | exact ih3 _ _ _ _ _ _ _ _ _ _ _ _ _ _
   | exact spec_l03ToKey.mono _ _
   | exact spec_l06In.mono _ _ _
   | exact spec_l06Tiered.mono _ _ _ _ _ _ _ _
   | exact LeO.none _
   | refine LeO.ite ?_ ?_
   | refine LeO.bind ?_ (fun _ => ?_)
  ·intro y0 y1 y2 y3 y4 y5 y6 y7 y8 y9 y10 y11 y12 y13 y14
   unfold spec_StateOK.l0
   repeat' first
   | (with_reducible exact ih0 _ _ _ _ _ _ _ _ _ _ _)
   | (with_reducible exact ih1 _ _ _ _ _ _ _ _ _ _ _ _ _ _ _)
   | (with_reducible exact ih2 _ _ _ _ _ _ _ _ _ _ _ _ _ _ _)
   | (with_reducible exact ih3 _ _ _ _ _ _ _ _ _ _ _ _ _ _)
   | (with_reducible exact spec_l03ToKey.mono _ _)
   | (with_reducible exact spec_l06In.mono _ _ _)
   | (with_reducible exact spec_l06Tiered.mono _ _ _ _ _ _ _ _)
   | (with_reducible exact LeO.refl _)
   | (with_reducible exact LeO.none _)
   | (with_reducible refine LeO.ite ?_ ?_)
   | (with_reducible refine LeO.bind ?_ (fun _ => ?_))
   | exact ih0 _ _ _ _ _ _ _ _ _ _ _
   | exact ih1 _ _ _ _ _ _ _ _ _ _ _ _ _ _ _
   | exact ih2 _ _ _ _ _ _ _ _ _ _ _ _ _ _ _
   | exact ih3 _ _ _ _ _ _ _ _ _ _ _ _ _ _
   | exact spec_l03ToKey.mono _ _
   | exact spec_l06In.mono _ _ _
   | exact spec_l06Tiered.mono _ _ _ _ _ _ _ _
   | exact LeO.none _
   | refine LeO.ite ?_ ?_
   | refine LeO.bind ?_ (fun _ => ?_)
  ·intro y0 y1 y2 y3 y4 y5 y6 y7 y8 y9 y10 y11 y12 y13 y14
   unfold spec_StateOK.l1
   repeat' first
   | (with_reducible exact ih0 _ _ _ _ _ _ _ _ _ _ _)
   | (with_reducible exact ih1 _ _ _ _ _ _ _ _ _ _ _ _ _ _ _)
   | (with_reducible exact ih2 _ _ _ _ _ _ _ _ _ _ _ _ _ _ _)
   | (with_reducible exact ih3 _ _ _ _ _ _ _ _ _ _ _ _ _ _)
   | (with_reducible exact spec_l03ToKey.mono _ _)
   | (with_reducible exact spec_l06In.mono _ _ _)
   | (with_reducible exact spec_l06Tiered.mono _ _ _ _ _ _ _ _)
   | (with_reducible exact LeO.refl _)
   | (with_reducible exact LeO.none _)
   | (with_reducible refine LeO.ite ?_ ?_)
   | (with_reducible refine LeO.bind ?_ (fun _ => ?_))
   | exact ih0 _ _ _ _ _ _ _ _ _ _ _
   | exact ih1 _ _ _ _ _ _ _ _ _ _ _ _ _ _ _
   | exact ih2 _ _ _ _ _ _ _ _ _ _ _ _ _ _ _
   | exact ih3 _ _ _ _ _ _ _ _ _ _ _ _ _ _
   | exact spec_l03ToKey.mono _ _
   | exact spec_l06In.mono _ _ _
   | exact spec_l06Tiered.mono _ _ _ _ _ _ _ _
   | exact LeO.none _
   | refine LeO.ite ?_ ?_
   | refine LeO.bind ?_ (fun _ => ?_)
  ·intro y0 y1 y2 y3 y4 y5 y6 y7 y8 y9 y10 y11 y12 y13
   unfold spec_StateOK.l2
   repeat' first
   | (with_reducible exact ih0 _ _ _ _ _ _ _ _ _ _ _)
   | (with_reducible exact ih1 _ _ _ _ _ _ _ _ _ _ _ _ _ _ _)
   | (with_reducible exact ih2 _ _ _ _ _ _ _ _ _ _ _ _ _ _ _)
   | (with_reducible exact ih3 _ _ _ _ _ _ _ _ _ _ _ _ _ _)
   | (with_reducible exact spec_l03ToKey.mono _ _)
   | (with_reducible exact spec_l06In.mono _ _ _)
   | (with_reducible exact spec_l06Tiered.mono _ _ _ _ _ _ _ _)
   | (with_reducible exact LeO.refl _)
   | (with_reducible exact LeO.none _)
   | (with_reducible refine LeO.ite ?_ ?_)
   | (with_reducible refine LeO.bind ?_ (fun _ => ?_))
   | exact ih0 _ _ _ _ _ _ _ _ _ _ _
   | exact ih1 _ _ _ _ _ _ _ _ _ _ _ _ _ _ _
   | exact ih2 _ _ _ _ _ _ _ _ _ _ _ _ _ _ _
   | exact ih3 _ _ _ _ _ _ _ _ _ _ _ _ _ _
   | exact spec_l03ToKey.mono _ _
   | exact spec_l06In.mono _ _ _
   | exact spec_l06Tiered.mono _ _ _ _ _ _ _ _
   | exact LeO.none _
   | refine LeO.ite ?_ ?_
   | refine LeO.bind ?_ (fun _ => ?_)
theorem spec_StateOK.mono : ∀ a0 a1 a2 a3 a4 a5 a6 a7 a8 a9 k,LeO (spec_StateOK.f k a0 a1 a2 a3 a4 a5 a6 a7 a8 a9) (spec_StateOK.f (k + 1) a0 a1 a2 a3 a4 a5 a6 a7 a8 a9) := by
 intro a0 a1 a2 a3 a4 a5 a6 a7 a8 a9 k
 obtain ⟨ih0,ih1,ih2,ih3⟩ := spec_StateOK.mono_l k
 unfold spec_StateOK.f
 repeat' first
   | (with_reducible exact ih0 _ _ _ _ _ _ _ _ _ _ _)
   | (with_reducible exact ih1 _ _ _ _ _ _ _ _ _ _ _ _ _ _ _)
   | (with_reducible exact ih2 _ _ _ _ _ _ _ _ _ _ _ _ _ _ _)
   | (with_reducible exact ih3 _ _ _ _ _ _ _ _ _ _ _ _ _ _)
   | (with_reducible exact spec_l03ToKey.mono _ _)
   | (with_reducible exact spec_l06In.mono _ _ _)
   | (with_reducible exact spec_l06Tiered.mono _ _ _ _ _ _ _ _)
   | (with_reducible exact LeO.refl _)
   | (with_reducible exact LeO.none _)
   | (with_reducible refine LeO.ite ?_ ?_)
   | (with_reducible refine LeO.bind ?_ (fun _ => ?_))
   | exact ih0 _ _ _ _ _ _ _ _ _ _ _
   | exact ih1 _ _ _ _ _ _ _ _ _ _ _ _ _ _ _
   | exact ih2 _ _ _ _ _ _ _ _ _ _ _ _ _ _ _
   | exact ih3 _ _ _ _ _ _ _ _ _ _ _ _ _ _
   | exact spec_l03ToKey.mono _ _
   | exact spec_l06In.mono _ _ _
   | exact spec_l06Tiered.mono _ _ _ _ _ _ _ _
   | exact LeO.none _
   | refine LeO.ite ?_ ?_
   | refine LeO.bind ?_ (fun _ => ?_)
def spec_StateOK.T9 : Bool × List (List Nat × List Nat) := (true,[([],[]),([0],[0]),([],[]),([2],[2]),([],[]),([4],[4]),([],[]),([6],[6]),([1,3,5,7],[1,3,5,7]),([8],[8]),([9],[9]),([10,9],[10]),([11],[11]),([12,11],[11,12]),([11],[11]),([14,11],[11,14]),([15,11],[11,15]),([16,11],[11,16]),([13,17,11],[11,13,17]),([11,18],[11,18]),([19,11],[19]),([20],[20]),([20],[20]),([22,20],[20,22]),([21,23,20,20],[20,21,23]),([20,24],[20,24])])
def spec_StateOK.B9 : List Nat := [0,1,0,4,0,16,0,64,255,511,1023,2047,4095,8191,4095,20479,53247,118783,262143,524287,1048575,2097151,2097151,6291455,16777215,33554431]
theorem spec_StateOK.tab9 : rtab .any (opsOf Tryd.f7 9) = spec_StateOK.T9 := by kernel_rfl
theorem spec_StateOK.bits9 : waitsOk spec_StateOK.T9.2 spec_StateOK.B9 = true := by kernel_rfl
def spec_StateOK.T17 : Bool × List (List Nat × List Nat) := (true,[([],[]),([0],[0]),([1],[1]),([2],[2]),([3,2],[2,3]),([2],[2]),([4,5,2],[2,4,5]),([6,2],[2,6]),([7,2],[2,7]),([2],[2]),([9,2],[2,9]),([8,10,2,2],[2,8,10]),([11,2],[2,11]),([2,12],[2,12]),([13,11],[13]),([14],[14]),([14],[14]),([16,14],[14,16]),([14],[14]),([17,18,14],[14,17,18]),([19,14],[14,19]),([20,14],[14,20]),([15,21,14,14],[14,15,21]),([14,22],[14,22])])
def spec_StateOK.B17 : List Nat := [0,1,3,7,15,7,63,127,255,7,519,2047,4095,8191,16383,32767,32767,98303,32767,491519,1015807,2064383,4194303,8388607]
theorem spec_StateOK.tab17 : rtab .any (opsOf Tryd.f7 17) = spec_StateOK.T17 := by kernel_rfl
theorem spec_StateOK.bits17 : waitsOk spec_StateOK.T17.2 spec_StateOK.B17 = true := by kernel_rfl
def spec_StateOK.T23 : Bool × List (List Nat × List Nat) := (true,[([],[]),([],[]),([1,0],[0,1]),([2],[2]),([3],[3]),([4],[4]),([5,4],[5]),([6],[6]),([6],[6]),([8,7,6],[6,7,8]),([9,6],[6,9]),([6],[6]),([11,6],[6,11]),([12,6],[6,12]),([10,13,6],[6,10,13]),([6,14],[6,14])])
def spec_StateOK.B23 : List Nat := [0,0,3,7,15,31,63,127,127,511,1023,127,2175,6271,16383,32767]
theorem spec_StateOK.tab23 : rtab .any (opsOf Tryd.f7 23) = spec_StateOK.T23 := by kernel_rfl
theorem spec_StateOK.bits23 : waitsOk spec_StateOK.T23.2 spec_StateOK.B23 = true := by kernel_rfl
set_option maxHeartbeats 8000000 in
set_option maxRecDepth 100000 in
theorem spec_StateOK.calls (k : Nat) (a0_0 : Int) (a0_1 : Int) (A0_2 : Option Addr) (c0_2 : Nat) (l0_2 : List (S39)) (A0_3 : Option Addr) (c0_3 : Nat) (l0_3 : List (S55)) (a0_4 : Int) (a0_5 : Int) (a0_6 : Int) (a0_7 : Int) (a0_8 : Int) (a0_9 : Int) (r : Bool) (w : World) (hr0_2 : Kd.C k39 w A0_2 l0_2.length l0_2) (hc0_2 : l0_2.length ≤ c0_2) (hr0_3 : Kd.C k55 w A0_3 l0_3.length l0_3) (hc0_3 : l0_3.length ≤ c0_3) (h : spec_StateOK.f k a0_0 a0_1 l0_2 l0_3 a0_4 a0_5 a0_6 a0_7 a0_8 a0_9 = some r) :
  Calls Tryd.prog 7 #[.agg #[.int .i64 a0_0,.int .i64 a0_1,.slice A0_2 l0_2.length c0_2,.slice A0_3 l0_3.length c0_3,.int .i64 a0_4,.int .i64 a0_5,.int .i64 a0_6,.int .i64 a0_7,.int .i64 a0_8,.int .i64 a0_9]] w fun e w' => e = .returned (.bool r) ∧ Below w.heap.size w w' := by
 have hu32 := Tryd.underlying32
 have hu24 := Tryd.underlying24
 have hu39 := Tryd.underlying39
 have hu50 := Tryd.underlying50
 have HR0_2 := Aside0.mk hr0_2
 have HC0_2 := Aside0.mk hc0_2
 clear hr0_2 hc0_2
 have HR0_3 := Aside0.mk hr0_3
 have HC0_3 := Aside0.mk hc0_3
 clear hr0_3 hc0_3
 have HB := Aside0.mk (Below.refl w.heap.size w)
 have H : ((spec_l01In.f a0_0 0 999999).bind fun t219 => (if t219 = true then ((spec_l01In.f a0_1 0 999999).bind fun t220 => (if t220 = true then (spec_StateOK.j0 k (decide ((wrap64 ((l0_2.length : Int) + (l0_3.length : Int))) > 4096)) a0_0 a0_1 l0_2 l0_3 a0_4 a0_5 a0_6 a0_7 a0_8 a0_9) else (spec_StateOK.j0 k true a0_0 a0_1 l0_2 l0_3 a0_4 a0_5 a0_6 a0_7 a0_8 a0_9))) else (spec_StateOK.j0 k true a0_0 a0_1 l0_2 l0_3 a0_4 a0_5 a0_6 a0_7 a0_8 a0_9))) = some r := h
 clear h
 have HC2 := Aside0.mk H
 clear H
 go_enter Tryd.func7,Tryd.ntmps7
 go_upto_region 1 with (first | ((with_reducible refine gate_dst (N:=1) rfl ?_); (try (refine gate_guard (by rfl) ?_; dsimp only)); refine box_event ?hg (N:=1) ?hd (cs := #[.int .i64 a0_0,.int .i64 a0_1,.slice A0_2 l0_2.length c0_2,.slice A0_3 l0_3.length c0_3,.int .i64 a0_4,.int .i64 a0_5,.int .i64 a0_6,.int .i64 a0_7,.int .i64 a0_8,.int .i64 a0_9]) (t:=32) ?hr ?_; (case hd => rfl); (case hg => rfl); (case hr => first | (go_simp; done) | (go_simp; rfl)); intro gb218 hg w3 hbox hb; have n0_ := Aside0.mk (below_step bA hb); have n1_ := Aside0.mk (hbox); have n2_ := Aside0.mk ((gw hg : w.heap.size ≤ gb218)); have n3_ := Aside0.mk ((gw hg : w.heap.size ≤ gb218)); clear HB; have HB := n0_; have BK218 := n1_; have GW218 := n2_; have GE218 := n3_; clear n0_ n1_ n2_ n3_; clear hb hbox hg))
 (try simp only [Act.put,setIfInBounds_toArray,set_cons_zero,set_cons_succ])
 go_cut [32] (fun v32 wc => ∃ (kq : Nat) (x32_1 : Bool),v32 = .bool x32_1 ∧ Aside0 (spec_StateOK.j0 kq x32_1 a0_0 a0_1 l0_2 l0_3 a0_4 a0_5 a0_6 a0_7 a0_8 a0_9 = some r) ∧ Aside0 (kq ≤ k) ∧ Aside0 (wc.heap[gb218]? = some (.cells #[.int .i64 a0_0,.int .i64 a0_1,(.slice A0_2 l0_2.length c0_2),(.slice A0_3 l0_3.length c0_3),.int .i64 a0_4,.int .i64 a0_5,.int .i64 a0_6,.int .i64 a0_7,.int .i64 a0_8,.int .i64 a0_9] 32 (0,0))) ∧ Aside0 (Below w.heap.size w wc))
 case first =>
  have H := HC2.out
  clear HC2
  replace H := Option.bind_eq_some_iff.mp H
  obtain ⟨t219,A40,H⟩ := H
  try dsimp only at H
  have A4 := Aside0.mk A40
  clear A40
  by_cases c5 : t219 = true
  ·subst c5
   rw [if_pos rfl] at H
   replace H := Option.bind_eq_some_iff.mp H
   obtain ⟨t220,A60,H⟩ := H
   try dsimp only at H
   have A6 := Aside0.mk A60
   clear A60
   by_cases c7 : t220 = true
   ·subst c7
    rw [if_pos rfl] at H
    have H' := Aside0.mk H
    clear H
    obtain ⟨hcz8_0,hcz8_1,hcz8_2,hcz8_3,hcz8_4,hcz8_5,hcz8_6,hcz8_7,hcz8_8,hcz8_9⟩ := cl10 BK218.out
    obtain ⟨hfz8_0,hfz8_1,hfz8_2,hfz8_3,hfz8_4,hfz8_5,hfz8_6,hfz8_7,hfz8_8,hfz8_9⟩ := fz10 BK218.out
    go_wp2_with (first | ((with_reducible refine gate_callee (f:=18) rfl ?_); refine goesL_ (some 15) rfl rfl Tryd.func18 (by kernel_rfl) rfl #[.int .i64 a0_0,.int .i64 0,.int .i64 999999] rfl mA ?_; (with_reducible refine (spec_l01In.calls a0_0 0 999999 true _ A4.out).mono ?_); rintro e w' ⟨rfl,⟨nd,rfl⟩⟩; refine ⟨_,rfl,?_⟩) | (go_at_call 18; (with_reducible refine (spec_l01In.calls a0_1 0 999999 true _ A6.out).mono ?_); rintro e w' ⟨rfl,⟨nd,rfl⟩⟩))
    go_meet
    case rel => exact ⟨_,(decide ((wrap64 ((l0_2.length : Int) + (l0_3.length : Int))) > 4096)),(by first | rfl | (simp; done) | (simp [*]; done)),H',⟨by first | omega | exact Nat.le_refl _⟩,⟨kA BK218.out⟩,⟨bA⟩⟩
   ·replace c7 := Bool.eq_false_iff.mpr c7
    subst c7
    rw [if_neg (show ¬ (false = true) by decide)] at H
    have H' := Aside0.mk H
    clear H
    obtain ⟨hcz9_0,hcz9_1,hcz9_2,hcz9_3,hcz9_4,hcz9_5,hcz9_6,hcz9_7,hcz9_8,hcz9_9⟩ := cl10 BK218.out
    obtain ⟨hfz9_0,hfz9_1,hfz9_2,hfz9_3,hfz9_4,hfz9_5,hfz9_6,hfz9_7,hfz9_8,hfz9_9⟩ := fz10 BK218.out
    go_wp2_with (first | ((with_reducible refine gate_callee (f:=18) rfl ?_); refine goesL_ (some 15) rfl rfl Tryd.func18 (by kernel_rfl) rfl #[.int .i64 a0_0,.int .i64 0,.int .i64 999999] rfl mA ?_; (with_reducible refine (spec_l01In.calls a0_0 0 999999 true _ A4.out).mono ?_); rintro e w' ⟨rfl,⟨nd,rfl⟩⟩; refine ⟨_,rfl,?_⟩) | (go_at_call 18; (with_reducible refine (spec_l01In.calls a0_1 0 999999 false _ A6.out).mono ?_); rintro e w' ⟨rfl,⟨nd,rfl⟩⟩))
    go_meet
    case rel => exact ⟨_,(true),(by first | rfl | (simp; done) | (simp [*]; done)),H',⟨by first | omega | exact Nat.le_refl _⟩,⟨kA BK218.out⟩,⟨bA⟩⟩
  ·replace c5 := Bool.eq_false_iff.mpr c5
   subst c5
   rw [if_neg (show ¬ (false = true) by decide)] at H
   have H' := Aside0.mk H
   clear H
   obtain ⟨hcz10_0,hcz10_1,hcz10_2,hcz10_3,hcz10_4,hcz10_5,hcz10_6,hcz10_7,hcz10_8,hcz10_9⟩ := cl10 BK218.out
   obtain ⟨hfz10_0,hfz10_1,hfz10_2,hfz10_3,hfz10_4,hfz10_5,hfz10_6,hfz10_7,hfz10_8,hfz10_9⟩ := fz10 BK218.out
   go_wp2_with (first | ((with_reducible refine gate_callee (f:=18) rfl ?_); refine goesL_ (some 15) rfl rfl Tryd.func18 (by kernel_rfl) rfl #[.int .i64 a0_0,.int .i64 0,.int .i64 999999] rfl mA ?_; (with_reducible refine (spec_l01In.calls a0_0 0 999999 false _ A4.out).mono ?_); rintro e w' ⟨rfl,⟨nd,rfl⟩⟩; refine ⟨_,rfl,?_⟩))
   go_meet
   case rel => exact ⟨_,(true),(by first | rfl | (simp; done) | (simp [*]; done)),H',⟨by first | omega | exact Nat.le_refl _⟩,⟨kA BK218.out⟩,⟨bA⟩⟩
 case rest =>
  clear HC2
  try clear c1
  try clear p2
  try clear c5
  try clear p6
  try clear c7
  try clear hcz10_0
  try clear hcz10_1
  try clear hcz10_2
  try clear hcz10_3
  try clear hcz10_4
  try clear hcz10_5
  try clear hcz10_6
  try clear hcz10_7
  try clear hcz10_8
  try clear hcz10_9
  try clear hcz8_0
  try clear hcz8_1
  try clear hcz8_2
  try clear hcz8_3
  try clear hcz8_4
  try clear hcz8_5
  try clear hcz8_6
  try clear hcz8_7
  try clear hcz8_8
  try clear hcz8_9
  try clear hcz9_0
  try clear hcz9_1
  try clear hcz9_2
  try clear hcz9_3
  try clear hcz9_4
  try clear hcz9_5
  try clear hcz9_6
  try clear hcz9_7
  try clear hcz9_8
  try clear hcz9_9
  try clear hfz10_0
  try clear hfz10_1
  try clear hfz10_2
  try clear hfz10_3
  try clear hfz10_4
  try clear hfz10_5
  try clear hfz10_6
  try clear hfz10_7
  try clear hfz10_8
  try clear hfz10_9
  try clear hfz8_0
  try clear hfz8_1
  try clear hfz8_2
  try clear hfz8_3
  try clear hfz8_4
  try clear hfz8_5
  try clear hfz8_6
  try clear hfz8_7
  try clear hfz8_8
  try clear hfz8_9
  try clear hfz9_0
  try clear hfz9_1
  try clear hfz9_2
  try clear hfz9_3
  try clear hfz9_4
  try clear hfz9_5
  try clear hfz9_6
  try clear hfz9_7
  try clear hfz9_8
  try clear hfz9_9
  obtain ⟨kq,x32_1,rfl,HA,HJ1,BK218,HB⟩ := hcut
  cases kq with
  | zero => exact absurd HA.out (by simp [spec_StateOK.j0])
  | succ kj1 =>
   have H := HA.out
   clear HA
   simp only [spec_StateOK.j0] at H
   by_cases c11 : x32_1 = true
   ·subst c11
    rw [if_pos rfl] at H
    obtain rfl := Option.some.inj H
    go_wp2
    go_ret
    exact ⟨by first | rfl | (simp only [i64_w,i32_w] <;> rfl) | (simp [errW_none,errW_some] <;> rfl) | (simp [*,errW_none,errW_some] <;> rfl),bA⟩
   ·replace c11 := Bool.eq_false_iff.mpr c11
    subst c11
    rw [if_neg (show ¬ (false = true) by decide)] at H
    obtain ⟨y222,hy222⟩ : ∃ y_ : List ByteArray,y_ = (([] : List ByteArray)) := ⟨_,rfl⟩
    replace H : (spec_StateOK.l0 kj1 y222 0 a0_0 a0_1 l0_2 l0_3 a0_4 a0_5 a0_6 a0_7 a0_8 a0_9 a0_4 a0_5 a0_6) = some r := by first | (rw [hy222]; with_reducible exact H) | (have H2_ := (Option.bind_some _ _).symm.trans H; rw [hy222]; with_reducible exact H2_) | (have H2_ := (Option.bind_some _ _).symm.trans H; with_reducible exact H2_) | with_reducible exact H | (rw [hy222]; exact H) | exact H
    have Ny222 := Aside0.mk hy222
    clear hy222
    have H' := Aside0.mk H
    clear H
    obtain ⟨hcz12_0,hcz12_1,hcz12_2,hcz12_3,hcz12_4,hcz12_5,hcz12_6,hcz12_7,hcz12_8,hcz12_9⟩ := cl10 BK218.out
    obtain ⟨hfz12_0,hfz12_1,hfz12_2,hfz12_3,hfz12_4,hfz12_5,hfz12_6,hfz12_7,hfz12_8,hfz12_9⟩ := fz10 BK218.out
    go_wp2_with (first | ((with_reducible refine gate_dst (N:=3) rfl ?_); (try (refine gate_guard (by rfl) ?_; dsimp only)); refine box_event ?hg (N:=3) ?hd (cs := #[.int .i64 0,.int .i64 0,.int .i64 0]) (t:=24) ?hr ?_; (case hd => rfl); (case hg => rfl); (case hr => first | (go_simp; done) | (go_simp; rfl)); intro gb221 hg w13 hbox hb; have n0_ := Aside0.mk (blk_below (g:=gb218) (o:=.cells #[.int .i64 a0_0,.int .i64 a0_1,.slice A0_2 l0_2.length c0_2,.slice A0_3 l0_3.length c0_3,.int .i64 a0_4,.int .i64 a0_5,.int .i64 a0_6,.int .i64 a0_7,.int .i64 a0_8,.int .i64 a0_9] 32 (0,0)) (kA BK218.out) hb); have n1_ := Aside0.mk (below_step bA hb); have n2_ := Aside0.mk (hbox); have n3_ := Aside0.mk ((gw hg : w.heap.size ≤ gb221)); have n4_ := Aside0.mk ((gw hg : w.heap.size ≤ gb221)); have n5_ := Aside0.mk ((by rw [hg]; exact Nat.ne_of_lt (blk_lt (g:=gb218) (o:=.cells #[.int .i64 a0_0,.int .i64 a0_1,.slice A0_2 l0_2.length c0_2,.slice A0_3 l0_3.length c0_3,.int .i64 a0_4,.int .i64 a0_5,.int .i64 a0_6,.int .i64 a0_7,.int .i64 a0_8,.int .i64 a0_9] 32 (0,0)) (kA BK218.out)) : gb218 ≠ gb221)); have n6_ := Aside0.mk ((by rw [hg]; exact Nat.ne_of_gt (blk_lt (g:=gb218) (o:=.cells #[.int .i64 a0_0,.int .i64 a0_1,.slice A0_2 l0_2.length c0_2,.slice A0_3 l0_3.length c0_3,.int .i64 a0_4,.int .i64 a0_5,.int .i64 a0_6,.int .i64 a0_7,.int .i64 a0_8,.int .i64 a0_9] 32 (0,0)) (kA BK218.out)) : gb221 ≠ gb218)); clear BK218; clear HB; have BK218 := n0_; have HB := n1_; have BK221 := n2_; have GW221 := n3_; have GE221 := n4_; have NB218_221 := n5_; have NB221_218 := n6_; clear n0_ n1_ n2_ n3_ n4_ n5_ n6_; clear hb hbox hg; have hnb14 := NB221_218.out; have hnc14 := NB218_221.out; obtain ⟨hcz15_0,hcz15_1,hcz15_2⟩ := cl3 BK221.out; obtain ⟨hfz15_0,hfz15_1,hfz15_2⟩ := fz3 BK221.out) | ((with_reducible refine gate_dst (N:=35) rfl ?_); (try (refine gate_guard (by rfl) ?_; dsimp only)); refine Kd.R_lit Kd.string _ 9 ?hg (N:=35) ?hd (xs := ([] : List ByteArray)) (inner := []) (ok := fun _ => True) (okp := fun _ => True) ?hr ?hp (fun _ hk => hk) trivial (Below.refl _ _) (Nat.le_refl _) (by simp) ?_; (case hd => rfl); (case hg => rfl); (case hr => first | (go_simp; done) | (go_simp; rfl)); (case hp => exact (Reps.none _ _)); intro v223 w16 ho17 hb hg_ hnew_; clear hg_ hnew_; (first | rw [← Ny222.out] at ho17 | (simp only [Int.reduceToNat] at ho17; rw [← Ny222.out] at ho17)); have n0_ := Aside0.mk (Kd.R_lower ho17 (below_size bA)); have n1_ := Aside0.mk (blk_below (g:=gb218) (o:=.cells #[.int .i64 a0_0,.int .i64 a0_1,.slice A0_2 l0_2.length c0_2,.slice A0_3 l0_3.length c0_3,.int .i64 a0_4,.int .i64 a0_5,.int .i64 a0_6,.int .i64 a0_7,.int .i64 a0_8,.int .i64 a0_9] 32 (0,0)) (kF BK218.out) hb); have n2_ := Aside0.mk (blk_below (g:=gb221) (o:=.cells #[.int .i64 a0_4,.int .i64 a0_5,.int .i64 a0_6] 24 (0,0)) (by (with_reducible repeat (first | refine blk_drewN ?_ _ | refine blk_drew ?_ | refine blk_alloc ?_ _)); apply blkp3; (with_reducible repeat (first | refine blk_drewN ?_ _ | refine blk_drew ?_ | refine blk_alloc ?_ _)); exact BK221.out) hb); have n3_ := Aside0.mk (below_step bA hb); clear BK218; clear BK221; clear HB; have HO224 := n0_; have BK218 := n1_; have BK221 := n2_; have HB := n3_; clear n0_ n1_ n2_ n3_; clear hb ho17))
    go_loopg [4,5] kj1 (fun kq v4 v5 w' => ∃ (x4_2 : List ByteArray) (x5_2 : Int) (x222000_2 : Int) (x222001_2 : Int) (x222002_2 : Int),v5 = .int .i64 x5_2 ∧ Aside0 (spec_StateOK.l0 kq x4_2 x5_2 a0_0 a0_1 l0_2 l0_3 a0_4 a0_5 a0_6 a0_7 a0_8 a0_9 x222000_2 x222001_2 x222002_2 = some r) ∧ Aside0 (kq ≤ kj1) ∧ Aside0 (Kd.R Kd.string 9 w' w.heap.size (fun _ => True) v4 x4_2) ∧ Aside0 (w'.heap[gb218]? = some (.cells #[.int .i64 a0_0,.int .i64 a0_1,(.slice A0_2 l0_2.length c0_2),(.slice A0_3 l0_3.length c0_3),.int .i64 a0_4,.int .i64 a0_5,.int .i64 a0_6,.int .i64 a0_7,.int .i64 a0_8,.int .i64 a0_9] 32 (0,0))) ∧ Aside0 (w'.heap[gb221]? = some (.cells #[.int .i64 x222000_2,.int .i64 x222001_2,.int .i64 x222002_2] 24 (0,0))) ∧ Aside0 (Below w.heap.size w w'))
    case atStart => exact ⟨(y222),(0),(a0_4),(a0_5),(a0_6),(by first | rfl | (simp; done) | (simp [*]; done)),H',⟨Nat.le_refl _⟩,⟨rA HO224.out⟩,⟨kA BK218.out⟩,⟨kA BK221.out⟩,⟨bA⟩⟩
    case round =>
     clear H'
     try clear c1
     try clear p2
     try clear c5
     try clear p6
     try clear c7
     try clear c11
     try clear c14
     try clear hcz10_0
     try clear hcz10_1
     try clear hcz10_2
     try clear hcz10_3
     try clear hcz10_4
     try clear hcz10_5
     try clear hcz10_6
     try clear hcz10_7
     try clear hcz10_8
     try clear hcz10_9
     try clear hcz12_0
     try clear hcz12_1
     try clear hcz12_2
     try clear hcz12_3
     try clear hcz12_4
     try clear hcz12_5
     try clear hcz12_6
     try clear hcz12_7
     try clear hcz12_8
     try clear hcz12_9
     try clear hcz15_0
     try clear hcz15_1
     try clear hcz15_2
     try clear hcz8_0
     try clear hcz8_1
     try clear hcz8_2
     try clear hcz8_3
     try clear hcz8_4
     try clear hcz8_5
     try clear hcz8_6
     try clear hcz8_7
     try clear hcz8_8
     try clear hcz8_9
     try clear hcz9_0
     try clear hcz9_1
     try clear hcz9_2
     try clear hcz9_3
     try clear hcz9_4
     try clear hcz9_5
     try clear hcz9_6
     try clear hcz9_7
     try clear hcz9_8
     try clear hcz9_9
     try clear hfz10_0
     try clear hfz10_1
     try clear hfz10_2
     try clear hfz10_3
     try clear hfz10_4
     try clear hfz10_5
     try clear hfz10_6
     try clear hfz10_7
     try clear hfz10_8
     try clear hfz10_9
     try clear hfz12_0
     try clear hfz12_1
     try clear hfz12_2
     try clear hfz12_3
     try clear hfz12_4
     try clear hfz12_5
     try clear hfz12_6
     try clear hfz12_7
     try clear hfz12_8
     try clear hfz12_9
     try clear hfz15_0
     try clear hfz15_1
     try clear hfz15_2
     try clear hfz8_0
     try clear hfz8_1
     try clear hfz8_2
     try clear hfz8_3
     try clear hfz8_4
     try clear hfz8_5
     try clear hfz8_6
     try clear hfz8_7
     try clear hfz8_8
     try clear hfz8_9
     try clear hfz9_0
     try clear hfz9_1
     try clear hfz9_2
     try clear hfz9_3
     try clear hfz9_4
     try clear hfz9_5
     try clear hfz9_6
     try clear hfz9_7
     try clear hfz9_8
     try clear hfz9_9
     try clear p2
     try clear p6
     obtain ⟨x4_2,x5_2,x222000_2,x222001_2,x222002_2,rfl,HA,HK2,HO_4,BK218,BK221,HB⟩ := hrel
     cases gk with
     | zero => exact absurd HA.out (by simp [spec_StateOK.l0])
     | succ k2 =>
      have H := HA.out
      clear HA
      simp only [spec_StateOK.l0] at H
      by_cases c18 : x5_2 < (l0_2.length : Int)
      ·rw [if_pos c18] at H
       have c18b0 : decide (x5_2 < (l0_2.length : Int)) = true := decide_eq_true c18
       clear c18
       by_cases c19 : 0 ≤ x5_2
       ·rw [if_pos c19] at H
        have c19b0 : decide (0 ≤ x5_2) = true := decide_eq_true c19
        clear c19
        replace H := Option.bind_eq_some_iff.mp H
        obtain ⟨t227,A200,H⟩ := H
        try dsimp only at H
        have A20 := Aside0.mk A200
        clear A200
        by_cases c21 : t227 = true
        ·subst c21
         rw [if_pos rfl] at H
         by_cases c22 : 0 ≤ ((rd_T39 l0_2 x5_2).f0)
         ·rw [if_pos c22] at H
          have c22b0 : decide (0 ≤ ((rd_T39 l0_2 x5_2).f0)) = true := decide_eq_true c22
          clear c22
          by_cases c23 : ((rd_T39 l0_2 x5_2).f0) < 3
          ·rw [if_pos c23] at H
           have c23b0 : decide (((rd_T39 l0_2 x5_2).f0) < 3) = true := decide_eq_true c23
           clear c23
           by_cases c24 : ((rd_T39 l0_2 x5_2).f1) = (at3 ((rd_T39 l0_2 x5_2).f0) x222000_2 x222001_2 x222002_2)
           ·rw [if_pos c24] at H
            have c24b0 : (((rd_T39 l0_2 x5_2).f1) == (at3 ((rd_T39 l0_2 x5_2).f0) x222000_2 x222001_2 x222002_2)) = true := beq_iff_eq.mpr c24
            have c24b1 : (((rd_T39 l0_2 x5_2).f1) != (at3 ((rd_T39 l0_2 x5_2).f0) x222000_2 x222001_2 x222002_2)) = false := bne_eq_false_iff_eq.mpr c24
            clear c24
            replace H := Option.bind_eq_some_iff.mp H
            obtain ⟨t228,A250,H⟩ := H
            try dsimp only at H
            have A25 := Aside0.mk A250
            clear A250
            by_cases c26 : t228 = true
            ·subst c26
             rw [if_pos rfl] at H
             obtain rfl := Option.some.inj H
             have hnb27 := NB218_221.out
             have hnc27 := NB221_218.out
             obtain ⟨hcz28_0,hcz28_1,hcz28_2,hcz28_3,hcz28_4,hcz28_5,hcz28_6,hcz28_7,hcz28_8,hcz28_9⟩ := cl10 BK218.out
             obtain ⟨hfz28_0,hfz28_1,hfz28_2,hfz28_3,hfz28_4,hfz28_5,hfz28_6,hfz28_7,hfz28_8,hfz28_9⟩ := fz10 BK218.out
             have p225 : 0 ≤ (x5_2 : Int) := od
             have q225 : x5_2 < (l0_2.length : Int) := od
             obtain ⟨ad225,e225,hx225_0,hx225_1,hx225_2,hx225_3⟩ := at_T39 HR0_2.out x5_2 p225 q225
             cases e225
             replace hx225_0 := cb HB.out hx225_0
             replace hx225_1 := cb HB.out hx225_1
             replace hx225_2 := cb HB.out hx225_2
             replace hx225_3 := cb HB.out hx225_3
             replace p225 := eq_true p225
             replace q225 := eq_true q225
             try go_wp2_with (first | ((with_reducible refine gate_dst (N:=6) rfl ?_); (try (refine gate_guard (by rfl) ?_; dsimp only)); refine box_event ?hg (N:=6) ?hd (cs := #[.int .i64 0,.int .i64 0,.int .i64 0,.string (⟨#[]⟩ : ByteArray)]) (t:=39) ?hr ?_; (case hd => rfl); (case hg => rfl); (case hr => first | (go_simp; done) | (go_simp; rfl)); intro gb226 hg w29 hbox hb; have n0_ := Aside0.mk (Kd.R_below (rA HO_4.out) hb); have n1_ := Aside0.mk (blk_below (g:=gb218) (o:=.cells #[.int .i64 a0_0,.int .i64 a0_1,.slice (some ad225) l0_2.length c0_2,.slice A0_3 l0_3.length c0_3,.int .i64 a0_4,.int .i64 a0_5,.int .i64 a0_6,.int .i64 a0_7,.int .i64 a0_8,.int .i64 a0_9] 32 (0,0)) (kA BK218.out) hb); have n2_ := Aside0.mk (blk_below (g:=gb221) (o:=.cells #[.int .i64 x222000_2,.int .i64 x222001_2,.int .i64 x222002_2] 24 (0,0)) (kA BK221.out) hb); have n3_ := Aside0.mk (below_step bA hb); have n4_ := Aside0.mk (hbox); have n5_ := Aside0.mk ((gw hg : w.heap.size ≤ gb226)); have n6_ := Aside0.mk ((gw hg : w.heap.size ≤ gb226)); have n7_ := Aside0.mk ((by rw [hg]; exact Nat.ne_of_lt (blk_lt (g:=gb218) (o:=.cells #[.int .i64 a0_0,.int .i64 a0_1,.slice (some ad225) l0_2.length c0_2,.slice A0_3 l0_3.length c0_3,.int .i64 a0_4,.int .i64 a0_5,.int .i64 a0_6,.int .i64 a0_7,.int .i64 a0_8,.int .i64 a0_9] 32 (0,0)) (kA BK218.out)) : gb218 ≠ gb226)); have n8_ := Aside0.mk ((by rw [hg]; exact Nat.ne_of_gt (blk_lt (g:=gb218) (o:=.cells #[.int .i64 a0_0,.int .i64 a0_1,.slice (some ad225) l0_2.length c0_2,.slice A0_3 l0_3.length c0_3,.int .i64 a0_4,.int .i64 a0_5,.int .i64 a0_6,.int .i64 a0_7,.int .i64 a0_8,.int .i64 a0_9] 32 (0,0)) (kA BK218.out)) : gb226 ≠ gb218)); have n9_ := Aside0.mk ((by rw [hg]; exact Nat.ne_of_lt (blk_lt (g:=gb221) (o:=.cells #[.int .i64 x222000_2,.int .i64 x222001_2,.int .i64 x222002_2] 24 (0,0)) (kA BK221.out)) : gb221 ≠ gb226)); have n10_ := Aside0.mk ((by rw [hg]; exact Nat.ne_of_gt (blk_lt (g:=gb221) (o:=.cells #[.int .i64 x222000_2,.int .i64 x222001_2,.int .i64 x222002_2] 24 (0,0)) (kA BK221.out)) : gb226 ≠ gb221)); clear HO_4; clear BK218; clear BK221; clear HB; have HO_4 := n0_; have BK218 := n1_; have BK221 := n2_; have HB := n3_; have BK226 := n4_; have GW226 := n5_; have GE226 := n6_; have NB218_226 := n7_; have NB226_218 := n8_; have NB221_226 := n9_; have NB226_221 := n10_; clear n0_ n1_ n2_ n3_ n4_ n5_ n6_ n7_ n8_ n9_ n10_; clear hb hbox hg; have hnb30 := NB226_218.out; have hnc30 := NB218_226.out; have hnb31 := NB226_221.out; have hnc31 := NB221_226.out; obtain ⟨hcz32_0,hcz32_1,hcz32_2,hcz32_3⟩ := cl4 BK226.out; obtain ⟨hfz32_0,hfz32_1,hfz32_2,hfz32_3⟩ := fz4 BK226.out))
             have n0_ : Aside0 (Kd.R Kd.string 9 ((((w29.setCell ⟨gb226,0,none⟩ (.int .i64 ((rd_T39 l0_2 x5_2).f0))).setCell ⟨gb226,1,none⟩ (.int .i64 ((rd_T39 l0_2 x5_2).f1))).setCell ⟨gb226,2,none⟩ (.int .i64 ((rd_T39 l0_2 x5_2).f2))).setCell ⟨gb226,3,none⟩ (.string ((rd_T39 l0_2 x5_2).f3))) w.heap.size (fun _ => True) u4 x4_2) := ⟨by (with_reducible repeat (first | apply Kd.R_alloc | apply Kd.R_drewN | apply Kd.R_drew)); exact Kd.R_mono (Kd.R_far (p:=⟨gb226,3,none⟩) (Kd.R_far (p:=⟨gb226,2,none⟩) (Kd.R_far (p:=⟨gb226,1,none⟩) (Kd.R_far (p:=⟨gb226,0,none⟩) (Kd.R_types HO_4.out BK226.out (by decide)) (fun _ hk => hk.2) (.int .i64 ((rd_T39 l0_2 x5_2).f0))) (fun _ hk => hk.2) (.int .i64 ((rd_T39 l0_2 x5_2).f1))) (fun _ hk => hk.2) (.int .i64 ((rd_T39 l0_2 x5_2).f2))) (fun _ hk => hk.2) (.string ((rd_T39 l0_2 x5_2).f3))) (fun _ hk => trivial)⟩
             have n1_ : Aside0 (((((w29.setCell ⟨gb226,0,none⟩ (.int .i64 ((rd_T39 l0_2 x5_2).f0))).setCell ⟨gb226,1,none⟩ (.int .i64 ((rd_T39 l0_2 x5_2).f1))).setCell ⟨gb226,2,none⟩ (.int .i64 ((rd_T39 l0_2 x5_2).f2))).setCell ⟨gb226,3,none⟩ (.string ((rd_T39 l0_2 x5_2).f3))).heap[gb218]? = some (.cells #[.int .i64 a0_0,.int .i64 a0_1,.slice (some ad225) l0_2.length c0_2,.slice A0_3 l0_3.length c0_3,.int .i64 a0_4,.int .i64 a0_5,.int .i64 a0_6,.int .i64 a0_7,.int .i64 a0_8,.int .i64 a0_9] 32 (0,0))) := ⟨kF BK218.out⟩
             have n2_ : Aside0 (((((w29.setCell ⟨gb226,0,none⟩ (.int .i64 ((rd_T39 l0_2 x5_2).f0))).setCell ⟨gb226,1,none⟩ (.int .i64 ((rd_T39 l0_2 x5_2).f1))).setCell ⟨gb226,2,none⟩ (.int .i64 ((rd_T39 l0_2 x5_2).f2))).setCell ⟨gb226,3,none⟩ (.string ((rd_T39 l0_2 x5_2).f3))).heap[gb221]? = some (.cells #[.int .i64 x222000_2,.int .i64 x222001_2,.int .i64 x222002_2] 24 (0,0))) := ⟨kF BK221.out⟩
             have n3_ : Aside0 (((((w29.setCell ⟨gb226,0,none⟩ (.int .i64 ((rd_T39 l0_2 x5_2).f0))).setCell ⟨gb226,1,none⟩ (.int .i64 ((rd_T39 l0_2 x5_2).f1))).setCell ⟨gb226,2,none⟩ (.int .i64 ((rd_T39 l0_2 x5_2).f2))).setCell ⟨gb226,3,none⟩ (.string ((rd_T39 l0_2 x5_2).f3))).heap[gb226]? = some (.cells #[.int .i64 ((rd_T39 l0_2 x5_2).f0),.int .i64 ((rd_T39 l0_2 x5_2).f1),.int .i64 ((rd_T39 l0_2 x5_2).f2),.string ((rd_T39 l0_2 x5_2).f3)] 39 (0,0))) := ⟨by (with_reducible repeat (first | refine blk_drewN ?_ _ | refine blk_drew ?_ | refine blk_alloc ?_ _)); refine blk_put (cs := #[.int .i64 ((rd_T39 l0_2 x5_2).f0),.int .i64 ((rd_T39 l0_2 x5_2).f1),.int .i64 ((rd_T39 l0_2 x5_2).f2),.string (⟨#[]⟩ : ByteArray)]) ?_ 3 _ rfl; (with_reducible repeat (first | refine blk_drewN ?_ _ | refine blk_drew ?_ | refine blk_alloc ?_ _)); refine blk_put (cs := #[.int .i64 ((rd_T39 l0_2 x5_2).f0),.int .i64 ((rd_T39 l0_2 x5_2).f1),.int .i64 0,.string (⟨#[]⟩ : ByteArray)]) ?_ 2 _ rfl; (with_reducible repeat (first | refine blk_drewN ?_ _ | refine blk_drew ?_ | refine blk_alloc ?_ _)); refine blk_put (cs := #[.int .i64 ((rd_T39 l0_2 x5_2).f0),.int .i64 0,.int .i64 0,.string (⟨#[]⟩ : ByteArray)]) ?_ 1 _ rfl; (with_reducible repeat (first | refine blk_drewN ?_ _ | refine blk_drew ?_ | refine blk_alloc ?_ _)); refine blk_put (cs := #[.int .i64 0,.int .i64 0,.int .i64 0,.string (⟨#[]⟩ : ByteArray)]) ?_ 0 _ rfl; (with_reducible repeat (first | refine blk_drewN ?_ _ | refine blk_drew ?_ | refine blk_alloc ?_ _)); exact BK226.out⟩
             have n4_ : Aside0 (Below w.heap.size w ((((w29.setCell ⟨gb226,0,none⟩ (.int .i64 ((rd_T39 l0_2 x5_2).f0))).setCell ⟨gb226,1,none⟩ (.int .i64 ((rd_T39 l0_2 x5_2).f1))).setCell ⟨gb226,2,none⟩ (.int .i64 ((rd_T39 l0_2 x5_2).f2))).setCell ⟨gb226,3,none⟩ (.string ((rd_T39 l0_2 x5_2).f3)))) := ⟨bA⟩
             (try clear HO_4)
             (try clear BK218)
             (try clear BK221)
             (try clear BK226)
             (try clear HB)
             generalize ((((w29.setCell ⟨gb226,0,none⟩ (.int .i64 ((rd_T39 l0_2 x5_2).f0))).setCell ⟨gb226,1,none⟩ (.int .i64 ((rd_T39 l0_2 x5_2).f1))).setCell ⟨gb226,2,none⟩ (.int .i64 ((rd_T39 l0_2 x5_2).f2))).setCell ⟨gb226,3,none⟩ (.string ((rd_T39 l0_2 x5_2).f3))) = w33 at n0_ n1_ n2_ n3_ n4_ ⊢
             have HO_4 := n0_
             have BK218 := n1_
             have BK221 := n2_
             have BK226 := n3_
             have HB := n4_
             clear n0_ n1_ n2_ n3_ n4_
             have n0_ := Aside0.mk (Kd.R_drew HO_4.out)
             have n1_ := Aside0.mk (blk_drew BK218.out)
             have n2_ := Aside0.mk (blk_drew BK221.out)
             have n3_ := Aside0.mk (blk_drew BK226.out)
             have n4_ := Aside0.mk (below_drew1 HB.out)
             clear HO_4
             clear BK218
             clear BK221
             clear BK226
             clear HB
             have HO_4 := n0_
             have BK218 := n1_
             have BK221 := n2_
             have BK226 := n3_
             have HB := n4_
             clear n0_ n1_ n2_ n3_ n4_
             refine start_ (n:=26) (S:=fun w' => w'.cell? ⟨gb226,0,none⟩ = some (.int .i64 ((rd_T39 l0_2 x5_2).f0)) ∧ w'.cell? ⟨gb226,1,none⟩ = some (.int .i64 ((rd_T39 l0_2 x5_2).f1)) ∧ w'.cell? ⟨gb226,2,none⟩ = some (.int .i64 ((rd_T39 l0_2 x5_2).f2)) ∧ w'.cell? ⟨gb226,3,none⟩ = some (.string ((rd_T39 l0_2 x5_2).f3)) ∧ w'.cell? ⟨gb221,0,none⟩ = some (.int .i64 x222000_2) ∧ w'.cell? ⟨gb221,1,none⟩ = some (.int .i64 x222001_2) ∧ w'.cell? ⟨gb221,2,none⟩ = some (.int .i64 x222002_2) ∧ w'.cell? ⟨gb221,((rd_T39 l0_2 x5_2).f0).toNat,none⟩ = some (.int .i64 (at3 ((rd_T39 l0_2 x5_2).f0) x222000_2 x222001_2 x222002_2))) (ds := []) (bm 26 0) (by kernel_rfl) rfl rfl ⟨(blk_cell BK226.out 0).trans rfl,(blk_cell BK226.out 1).trans rfl,(blk_cell BK226.out 2).trans rfl,(blk_cell BK226.out 3).trans rfl,(blk_cell BK221.out 0).trans rfl,(blk_cell BK221.out 1).trans rfl,(blk_cell BK221.out 2).trans rfl,at3_cell0 (od) (od) ((blk_cell BK221.out 0).trans rfl) ((blk_cell BK221.out 1).trans rfl) ((blk_cell BK221.out 2).trans rfl)⟩ (fun hHeld => ?_); refine with_tabW spec_StateOK.tab9 spec_StateOK.bits9 (fun HT_ HW_ => ?_)
             generalize w33.drew = w34 at HO_4 BK218 BK221 BK226 HB hHeld ⊢
             refine pV_ 0 48 (bm 26 1) HT_.out ?_
             refine pV_ 2 50 (bm 26 5) HT_.out ?_
             refine pV_ 4 52 (bm 26 21) HT_.out ?_
             refine pV_ 6 54 (bm 26 85) HT_.out ?_
             refine take_ (i:=1) (N:=some 49) (v:=?_) (a':=?_) (bm 26 87) rfl rfl (take_ofW HT_.out HW_.out (by kernel_rfl)) (fun _ _ _ h => h) (Or.inl ⟨by rfl,?_⟩) hHeld ?_ ?_
             rotate_left
             ·rintro w' ⟨s0,s1,s2,s3,s4,s5,s6,s7⟩
              go_simp
              with_reducible rfl
             rotate_left
             ·simp only [Act.put,setIfInBounds_toArray,set_cons_zero,set_cons_succ,i64_w,i32_w]
              rfl
             refine take_ (i:=3) (N:=some 51) (v:=?_) (a':=?_) (bm 26 95) rfl rfl (take_ofW HT_.out HW_.out (by kernel_rfl)) (fun _ _ _ h => h) (Or.inl ⟨by rfl,?_⟩) hHeld ?_ ?_
             rotate_left
             ·rintro w' ⟨s0,s1,s2,s3,s4,s5,s6,s7⟩
              go_simp
              with_reducible rfl
             rotate_left
             ·simp only [Act.put,setIfInBounds_toArray,set_cons_zero,set_cons_succ,i64_w,i32_w]
              rfl
             refine take_ (i:=5) (N:=some 53) (v:=?_) (a':=?_) (bm 26 127) rfl rfl (take_ofW HT_.out HW_.out (by kernel_rfl)) (fun _ _ _ h => h) (Or.inl ⟨by rfl,?_⟩) hHeld ?_ ?_
             rotate_left
             ·rintro w' ⟨s0,s1,s2,s3,s4,s5,s6,s7⟩
              go_simp
              with_reducible rfl
             rotate_left
             ·simp only [Act.put,setIfInBounds_toArray,set_cons_zero,set_cons_succ,i64_w,i32_w]
              rfl
             refine take_ (i:=7) (N:=some 55) (v:=?_) (a':=?_) (bm 26 255) rfl rfl (take_ofW HT_.out HW_.out (by kernel_rfl)) (fun _ _ _ h => h) (Or.inl ⟨by rfl,?_⟩) hHeld ?_ ?_
             rotate_left
             ·rintro w' ⟨s0,s1,s2,s3,s4,s5,s6,s7⟩
              go_simp
              with_reducible rfl
             rotate_left
             ·simp only [Act.put,setIfInBounds_toArray,set_cons_zero,set_cons_succ,i64_w,i32_w]
              rfl
             refine pV_ 8 56 (bm 26 511) HT_.out ?_
             refine one_ (i:=9) (N:=some 57) (bm 26 1023) rfl rfl (one_of HT_.out (by kernel_rfl)) (by decide) (fun K hK => ?_)
             refine goes_ Tryd.func19 (by kernel_rfl) rfl #[.agg #[.int .i64 0,.int .i64 0,.int .i64 ((rd_T39 l0_2 x5_2).f0),.int .i64 ((rd_T39 l0_2 x5_2).f1),.int .i64 ((rd_T39 l0_2 x5_2).f2),.string ((rd_T39 l0_2 x5_2).f3)],.int .i64 0] (by rfl) rfl rfl mA ?_
             with_reducible refine (spec_l06Tiered.calls k2 0 0 ((rd_T39 l0_2 x5_2).f0) ((rd_T39 l0_2 x5_2).f1) ((rd_T39 l0_2 x5_2).f2) ((rd_T39 l0_2 x5_2).f3) 0 true _ A20.out).mono ?_
             rintro e w35 ⟨rfl,hb⟩
             refine ⟨_,rfl,?_⟩
             have n0_ := Aside0.mk (Kd.R_below (rA HO_4.out) hb)
             have n1_ := Aside0.mk (blk_below (g:=gb218) (o:=.cells #[.int .i64 a0_0,.int .i64 a0_1,.slice (some ad225) l0_2.length c0_2,.slice A0_3 l0_3.length c0_3,.int .i64 a0_4,.int .i64 a0_5,.int .i64 a0_6,.int .i64 a0_7,.int .i64 a0_8,.int .i64 a0_9] 32 (0,0)) (kA BK218.out) hb)
             have n2_ := Aside0.mk (blk_below (g:=gb221) (o:=.cells #[.int .i64 x222000_2,.int .i64 x222001_2,.int .i64 x222002_2] 24 (0,0)) (kA BK221.out) hb)
             have n3_ := Aside0.mk (blk_below (g:=gb226) (o:=.cells #[.int .i64 ((rd_T39 l0_2 x5_2).f0),.int .i64 ((rd_T39 l0_2 x5_2).f1),.int .i64 ((rd_T39 l0_2 x5_2).f2),.string ((rd_T39 l0_2 x5_2).f3)] 39 (0,0)) (kA BK226.out) hb)
             have n4_ := Aside0.mk (below_step bA hb)
             clear HO_4
             clear BK218
             clear BK221
             clear BK226
             clear HB
             have HO_4 := n0_
             have BK218 := n1_
             have BK221 := n2_
             have BK226 := n3_
             have HB := n4_
             clear n0_ n1_ n2_ n3_ n4_
             (try clear hb)
             (try clear hb2)
             (try clear hk)
             (try clear hi)
             have hia36 := ia_dyn0 (P:=Tryd.prog) (t:=24) (e:=3) Tryd.underlying24 (by kernel_rfl) (by kernel_rfl) gb221 ((rd_T39 l0_2 x5_2).f0) (od) (od)
             obtain ⟨Ao37,co37,eo37⟩ := Kd.R_slice HO_4.out
             (first | subst eo37 | (injection eo37 with f1_ f2_ f3_; have f4_ := f1_.symm; have f5_ := f3_.symm; clear f1_ f2_ f3_; subst f4_; subst f5_))
             refine hK.out _ _ ⟨(blk_cell BK226.out 0).trans rfl,(blk_cell BK226.out 1).trans rfl,(blk_cell BK226.out 2).trans rfl,(blk_cell BK226.out 3).trans rfl,(blk_cell BK221.out 0).trans rfl,(blk_cell BK221.out 1).trans rfl,(blk_cell BK221.out 2).trans rfl,at3_cell0 (od) (od) ((blk_cell BK221.out 0).trans rfl) ((blk_cell BK221.out 1).trans rfl) ((blk_cell BK221.out 2).trans rfl)⟩ (fun hHeld => ?_)
             clear hK K
             refine norm_ (a':=?_) ?_ ?_
             rotate_left
             ·show Act.put _ (some 57) _ = _
              simp only [Act.put,setIfInBounds_toArray,set_cons_zero,set_cons_succ,i64_w,i32_w]
              rfl
             refine pV_ 10 58 (bm 26 2047) HT_.out ?_
             refine pV_ 11 59 (bm 26 4095) HT_.out ?_
             refine pV_ 12 60 (bm 26 8191) HT_.out ?_
             refine pV_ 14 62 (bm 26 24575) HT_.out ?_
             refine take_ (i:=13) (N:=some 61) (v:=?_) (a':=?_) (bm 26 32767) rfl rfl (take_ofW HT_.out HW_.out (by kernel_rfl)) (fun _ _ _ h => h) (Or.inl ⟨by rfl,?_⟩) hHeld ?_ ?_
             rotate_left
             ·rintro w' ⟨s0,s1,s2,s3,s4,s5,s6,s7⟩
              go_simp
              with_reducible rfl
             rotate_left
             ·simp only [Act.put,setIfInBounds_toArray,set_cons_zero,set_cons_succ,i64_w,i32_w]
              rfl
             refine take_ (i:=15) (N:=some 63) (v:=?_) (a':=?_) (bm 26 65535) rfl rfl (take_ofW HT_.out HW_.out (by kernel_rfl)) (fun _ _ _ h => h) (Or.inl ⟨by rfl,?_⟩) hHeld ?_ ?_
             rotate_left
             ·rintro w' ⟨s0,s1,s2,s3,s4,s5,s6,s7⟩
              go_simp
              with_reducible rfl
             rotate_left
             ·simp only [Act.put,setIfInBounds_toArray,set_cons_zero,set_cons_succ,i64_w,i32_w]
              rfl
             refine pV_ 16 64 (bm 26 131071) HT_.out ?_
             refine take_ (i:=17) (N:=some 65) (v:=?_) (a':=?_) (bm 26 262143) rfl rfl (take_ofW HT_.out HW_.out (by kernel_rfl)) (fun _ _ _ h => h) (Or.inl ⟨by rfl,?_⟩) hHeld ?_ ?_
             rotate_left
             ·rintro w' ⟨s0,s1,s2,s3,s4,s5,s6,s7⟩
              go_simp
              with_reducible rfl
             rotate_left
             ·simp only [Act.put,setIfInBounds_toArray,set_cons_zero,set_cons_succ,i64_w,i32_w]
              rfl
             refine pV_ 18 66 (bm 26 524287) HT_.out ?_
             refine pV_ 19 67 (bm 26 1048575) HT_.out ?_
             refine pV_ 20 68 (bm 26 2097151) HT_.out ?_
             refine pV_ 21 69 (bm 26 4194303) HT_.out ?_
             refine pV_ 22 70 (bm 26 8388607) HT_.out ?_
             refine take_ (i:=23) (N:=some 71) (v:=?_) (a':=?_) (bm 26 16777215) rfl rfl (take_ofW HT_.out HW_.out (by kernel_rfl)) (fun _ _ _ h => h) (Or.inl ⟨by rfl,?_⟩) hHeld ?_ ?_
             rotate_left
             ·rintro w' ⟨s0,s1,s2,s3,s4,s5,s6,s7⟩
              go_simp
              with_reducible rfl
             rotate_left
             ·simp only [Act.put,setIfInBounds_toArray,set_cons_zero,set_cons_succ,i64_w,i32_w]
              rfl
             refine one_ (i:=24) (N:=some 72) (bm 26 33554431) rfl rfl (one_of HT_.out (by kernel_rfl)) (by decide) (fun K hK => ?_)
             refine goes_ Tryd.func20 (by kernel_rfl) rfl #[.slice Ao37 x4_2.length co37,.string ((rd_T39 l0_2 x5_2).f3)] (by rfl) rfl rfl mA ?_
             with_reducible refine (spec_l06In.calls k2 _ _ x4_2 ((rd_T39 l0_2 x5_2).f3) true _ ?side1 ?side2 A25.out).mono ?_
             (case side1 => repeat (first | exact (Kd.R_reads' HO_4.out).2.2 | (with_reducible refine Kd.C_alloc ?_ _) | (with_reducible refine Kd.C_drewN ?_ _) | (with_reducible refine Kd.C_drew ?_)))
             (case side2 => exact (Kd.R_reads' HO_4.out).2.1)
             rintro e w' ⟨rfl,⟨nd,rfl⟩⟩
             refine ⟨_,rfl,?_⟩
             refine hK.out _ _ ⟨(blk_cell BK226.out 0).trans rfl,(blk_cell BK226.out 1).trans rfl,(blk_cell BK226.out 2).trans rfl,(blk_cell BK226.out 3).trans rfl,(blk_cell BK221.out 0).trans rfl,(blk_cell BK221.out 1).trans rfl,(blk_cell BK221.out 2).trans rfl,at3_cell0 (od) (od) ((blk_cell BK221.out 0).trans rfl) ((blk_cell BK221.out 1).trans rfl) ((blk_cell BK221.out 2).trans rfl)⟩ (fun hHeld => ?_)
             clear hK K
             refine norm_ (a':=?_) ?_ ?_
             rotate_left
             ·show Act.put _ (some 72) _ = _
              simp only [Act.put,setIfInBounds_toArray,set_cons_zero,set_cons_succ,i64_w,i32_w]
              rfl
             refine pV_ 25 73 (bm 26 67108863) HT_.out ?_
             refine done_ (done_of HT_.out (by kernel_rfl)) ?_
             try go_wp2
             go_ret
             exact ⟨by first | rfl | (simp only [i64_w,i32_w] <;> rfl) | (simp [errW_none,errW_some] <;> rfl) | (simp [*,errW_none,errW_some] <;> rfl),bA⟩
            ·replace c26 := Bool.eq_false_iff.mpr c26
             subst c26
             rw [if_neg (show ¬ (false = true) by decide)] at H
             by_cases c38 : ((rd_T39 l0_2 x5_2).f0) = 0
             ·rw [if_pos c38] at H
              have c38b0 : (((rd_T39 l0_2 x5_2).f0) == 0) = true := beq_iff_eq.mpr c38
              have c38b1 : (((rd_T39 l0_2 x5_2).f0) != 0) = false := bne_eq_false_iff_eq.mpr c38
              clear c38
              by_cases c39 : x4_2.length < 8796093022208
              ·rw [if_pos c39] at H
               have LMc39 := Aside0.mk c39
               clear c39
               obtain ⟨y229,hy229⟩ : ∃ y_ : List ByteArray,y_ = (x4_2 ++ [(rd_T39 l0_2 x5_2).f3]) := ⟨_,rfl⟩
               replace H : (spec_StateOK.l0 k2 y229 (wrap64 (x5_2 + 1)) a0_0 a0_1 l0_2 l0_3 a0_4 a0_5 a0_6 a0_7 a0_8 a0_9 ((rd_T39 l0_2 x5_2).f2) x222001_2 x222002_2) = some r := by first | (rw [hy229]; with_reducible exact H) | (have H2_ := (Option.bind_some _ _).symm.trans H; rw [hy229]; with_reducible exact H2_) | (have H2_ := (Option.bind_some _ _).symm.trans H; with_reducible exact H2_) | with_reducible exact H | (rw [hy229]; exact H) | exact H
               have Ny229 := Aside0.mk hy229
               clear hy229
               have H' := Aside0.mk H
               clear H
               have hnb40 := NB218_221.out
               have hnc40 := NB221_218.out
               obtain ⟨hcz41_0,hcz41_1,hcz41_2,hcz41_3,hcz41_4,hcz41_5,hcz41_6,hcz41_7,hcz41_8,hcz41_9⟩ := cl10 BK218.out
               obtain ⟨hfz41_0,hfz41_1,hfz41_2,hfz41_3,hfz41_4,hfz41_5,hfz41_6,hfz41_7,hfz41_8,hfz41_9⟩ := fz10 BK218.out
               have p225 : 0 ≤ (x5_2 : Int) := od
               have q225 : x5_2 < (l0_2.length : Int) := od
               obtain ⟨ad225,e225,hx225_0,hx225_1,hx225_2,hx225_3⟩ := at_T39 HR0_2.out x5_2 p225 q225
               cases e225
               replace hx225_0 := cb HB.out hx225_0
               replace hx225_1 := cb HB.out hx225_1
               replace hx225_2 := cb HB.out hx225_2
               replace hx225_3 := cb HB.out hx225_3
               replace p225 := eq_true p225
               replace q225 := eq_true q225
               try go_wp2_with (first | ((with_reducible refine gate_dst (N:=6) rfl ?_); (try (refine gate_guard (by rfl) ?_; dsimp only)); refine box_event ?hg (N:=6) ?hd (cs := #[.int .i64 0,.int .i64 0,.int .i64 0,.string (⟨#[]⟩ : ByteArray)]) (t:=39) ?hr ?_; (case hd => rfl); (case hg => rfl); (case hr => first | (go_simp; done) | (go_simp; rfl)); intro gb226 hg w42 hbox hb; have n0_ := Aside0.mk (Kd.R_below (rA HO_4.out) hb); have n1_ := Aside0.mk (blk_below (g:=gb218) (o:=.cells #[.int .i64 a0_0,.int .i64 a0_1,.slice (some ad225) l0_2.length c0_2,.slice A0_3 l0_3.length c0_3,.int .i64 a0_4,.int .i64 a0_5,.int .i64 a0_6,.int .i64 a0_7,.int .i64 a0_8,.int .i64 a0_9] 32 (0,0)) (kA BK218.out) hb); have n2_ := Aside0.mk (blk_below (g:=gb221) (o:=.cells #[.int .i64 x222000_2,.int .i64 x222001_2,.int .i64 x222002_2] 24 (0,0)) (kA BK221.out) hb); have n3_ := Aside0.mk (below_step bA hb); have n4_ := Aside0.mk (hbox); have n5_ := Aside0.mk ((gw hg : w.heap.size ≤ gb226)); have n6_ := Aside0.mk ((gw hg : w.heap.size ≤ gb226)); have n7_ := Aside0.mk ((by rw [hg]; exact Nat.ne_of_lt (blk_lt (g:=gb218) (o:=.cells #[.int .i64 a0_0,.int .i64 a0_1,.slice (some ad225) l0_2.length c0_2,.slice A0_3 l0_3.length c0_3,.int .i64 a0_4,.int .i64 a0_5,.int .i64 a0_6,.int .i64 a0_7,.int .i64 a0_8,.int .i64 a0_9] 32 (0,0)) (kA BK218.out)) : gb218 ≠ gb226)); have n8_ := Aside0.mk ((by rw [hg]; exact Nat.ne_of_gt (blk_lt (g:=gb218) (o:=.cells #[.int .i64 a0_0,.int .i64 a0_1,.slice (some ad225) l0_2.length c0_2,.slice A0_3 l0_3.length c0_3,.int .i64 a0_4,.int .i64 a0_5,.int .i64 a0_6,.int .i64 a0_7,.int .i64 a0_8,.int .i64 a0_9] 32 (0,0)) (kA BK218.out)) : gb226 ≠ gb218)); have n9_ := Aside0.mk ((by rw [hg]; exact Nat.ne_of_lt (blk_lt (g:=gb221) (o:=.cells #[.int .i64 x222000_2,.int .i64 x222001_2,.int .i64 x222002_2] 24 (0,0)) (kA BK221.out)) : gb221 ≠ gb226)); have n10_ := Aside0.mk ((by rw [hg]; exact Nat.ne_of_gt (blk_lt (g:=gb221) (o:=.cells #[.int .i64 x222000_2,.int .i64 x222001_2,.int .i64 x222002_2] 24 (0,0)) (kA BK221.out)) : gb226 ≠ gb221)); clear HO_4; clear BK218; clear BK221; clear HB; have HO_4 := n0_; have BK218 := n1_; have BK221 := n2_; have HB := n3_; have BK226 := n4_; have GW226 := n5_; have GE226 := n6_; have NB218_226 := n7_; have NB226_218 := n8_; have NB221_226 := n9_; have NB226_221 := n10_; clear n0_ n1_ n2_ n3_ n4_ n5_ n6_ n7_ n8_ n9_ n10_; clear hb hbox hg; have hnb43 := NB226_218.out; have hnc43 := NB218_226.out; have hnb44 := NB226_221.out; have hnc44 := NB221_226.out; obtain ⟨hcz45_0,hcz45_1,hcz45_2,hcz45_3⟩ := cl4 BK226.out; obtain ⟨hfz45_0,hfz45_1,hfz45_2,hfz45_3⟩ := fz4 BK226.out))
               have n0_ : Aside0 (Kd.R Kd.string 9 ((((w42.setCell ⟨gb226,0,none⟩ (.int .i64 ((rd_T39 l0_2 x5_2).f0))).setCell ⟨gb226,1,none⟩ (.int .i64 ((rd_T39 l0_2 x5_2).f1))).setCell ⟨gb226,2,none⟩ (.int .i64 ((rd_T39 l0_2 x5_2).f2))).setCell ⟨gb226,3,none⟩ (.string ((rd_T39 l0_2 x5_2).f3))) w.heap.size (fun _ => True) u4 x4_2) := ⟨by (with_reducible repeat (first | apply Kd.R_alloc | apply Kd.R_drewN | apply Kd.R_drew)); exact Kd.R_mono (Kd.R_far (p:=⟨gb226,3,none⟩) (Kd.R_far (p:=⟨gb226,2,none⟩) (Kd.R_far (p:=⟨gb226,1,none⟩) (Kd.R_far (p:=⟨gb226,0,none⟩) (Kd.R_types HO_4.out BK226.out (by decide)) (fun _ hk => hk.2) (.int .i64 ((rd_T39 l0_2 x5_2).f0))) (fun _ hk => hk.2) (.int .i64 ((rd_T39 l0_2 x5_2).f1))) (fun _ hk => hk.2) (.int .i64 ((rd_T39 l0_2 x5_2).f2))) (fun _ hk => hk.2) (.string ((rd_T39 l0_2 x5_2).f3))) (fun _ hk => trivial)⟩
               have n1_ : Aside0 (((((w42.setCell ⟨gb226,0,none⟩ (.int .i64 ((rd_T39 l0_2 x5_2).f0))).setCell ⟨gb226,1,none⟩ (.int .i64 ((rd_T39 l0_2 x5_2).f1))).setCell ⟨gb226,2,none⟩ (.int .i64 ((rd_T39 l0_2 x5_2).f2))).setCell ⟨gb226,3,none⟩ (.string ((rd_T39 l0_2 x5_2).f3))).heap[gb218]? = some (.cells #[.int .i64 a0_0,.int .i64 a0_1,.slice (some ad225) l0_2.length c0_2,.slice A0_3 l0_3.length c0_3,.int .i64 a0_4,.int .i64 a0_5,.int .i64 a0_6,.int .i64 a0_7,.int .i64 a0_8,.int .i64 a0_9] 32 (0,0))) := ⟨kF BK218.out⟩
               have n2_ : Aside0 (((((w42.setCell ⟨gb226,0,none⟩ (.int .i64 ((rd_T39 l0_2 x5_2).f0))).setCell ⟨gb226,1,none⟩ (.int .i64 ((rd_T39 l0_2 x5_2).f1))).setCell ⟨gb226,2,none⟩ (.int .i64 ((rd_T39 l0_2 x5_2).f2))).setCell ⟨gb226,3,none⟩ (.string ((rd_T39 l0_2 x5_2).f3))).heap[gb221]? = some (.cells #[.int .i64 x222000_2,.int .i64 x222001_2,.int .i64 x222002_2] 24 (0,0))) := ⟨kF BK221.out⟩
               have n3_ : Aside0 (((((w42.setCell ⟨gb226,0,none⟩ (.int .i64 ((rd_T39 l0_2 x5_2).f0))).setCell ⟨gb226,1,none⟩ (.int .i64 ((rd_T39 l0_2 x5_2).f1))).setCell ⟨gb226,2,none⟩ (.int .i64 ((rd_T39 l0_2 x5_2).f2))).setCell ⟨gb226,3,none⟩ (.string ((rd_T39 l0_2 x5_2).f3))).heap[gb226]? = some (.cells #[.int .i64 ((rd_T39 l0_2 x5_2).f0),.int .i64 ((rd_T39 l0_2 x5_2).f1),.int .i64 ((rd_T39 l0_2 x5_2).f2),.string ((rd_T39 l0_2 x5_2).f3)] 39 (0,0))) := ⟨by (with_reducible repeat (first | refine blk_drewN ?_ _ | refine blk_drew ?_ | refine blk_alloc ?_ _)); refine blk_put (cs := #[.int .i64 ((rd_T39 l0_2 x5_2).f0),.int .i64 ((rd_T39 l0_2 x5_2).f1),.int .i64 ((rd_T39 l0_2 x5_2).f2),.string (⟨#[]⟩ : ByteArray)]) ?_ 3 _ rfl; (with_reducible repeat (first | refine blk_drewN ?_ _ | refine blk_drew ?_ | refine blk_alloc ?_ _)); refine blk_put (cs := #[.int .i64 ((rd_T39 l0_2 x5_2).f0),.int .i64 ((rd_T39 l0_2 x5_2).f1),.int .i64 0,.string (⟨#[]⟩ : ByteArray)]) ?_ 2 _ rfl; (with_reducible repeat (first | refine blk_drewN ?_ _ | refine blk_drew ?_ | refine blk_alloc ?_ _)); refine blk_put (cs := #[.int .i64 ((rd_T39 l0_2 x5_2).f0),.int .i64 0,.int .i64 0,.string (⟨#[]⟩ : ByteArray)]) ?_ 1 _ rfl; (with_reducible repeat (first | refine blk_drewN ?_ _ | refine blk_drew ?_ | refine blk_alloc ?_ _)); refine blk_put (cs := #[.int .i64 0,.int .i64 0,.int .i64 0,.string (⟨#[]⟩ : ByteArray)]) ?_ 0 _ rfl; (with_reducible repeat (first | refine blk_drewN ?_ _ | refine blk_drew ?_ | refine blk_alloc ?_ _)); exact BK226.out⟩
               have n4_ : Aside0 (Below w.heap.size w ((((w42.setCell ⟨gb226,0,none⟩ (.int .i64 ((rd_T39 l0_2 x5_2).f0))).setCell ⟨gb226,1,none⟩ (.int .i64 ((rd_T39 l0_2 x5_2).f1))).setCell ⟨gb226,2,none⟩ (.int .i64 ((rd_T39 l0_2 x5_2).f2))).setCell ⟨gb226,3,none⟩ (.string ((rd_T39 l0_2 x5_2).f3)))) := ⟨bA⟩
               (try clear HO_4)
               (try clear BK218)
               (try clear BK221)
               (try clear BK226)
               (try clear HB)
               generalize ((((w42.setCell ⟨gb226,0,none⟩ (.int .i64 ((rd_T39 l0_2 x5_2).f0))).setCell ⟨gb226,1,none⟩ (.int .i64 ((rd_T39 l0_2 x5_2).f1))).setCell ⟨gb226,2,none⟩ (.int .i64 ((rd_T39 l0_2 x5_2).f2))).setCell ⟨gb226,3,none⟩ (.string ((rd_T39 l0_2 x5_2).f3))) = w46 at n0_ n1_ n2_ n3_ n4_ ⊢
               have HO_4 := n0_
               have BK218 := n1_
               have BK221 := n2_
               have BK226 := n3_
               have HB := n4_
               clear n0_ n1_ n2_ n3_ n4_
               have n0_ := Aside0.mk (Kd.R_drew HO_4.out)
               have n1_ := Aside0.mk (blk_drew BK218.out)
               have n2_ := Aside0.mk (blk_drew BK221.out)
               have n3_ := Aside0.mk (blk_drew BK226.out)
               have n4_ := Aside0.mk (below_drew1 HB.out)
               clear HO_4
               clear BK218
               clear BK221
               clear BK226
               clear HB
               have HO_4 := n0_
               have BK218 := n1_
               have BK221 := n2_
               have BK226 := n3_
               have HB := n4_
               clear n0_ n1_ n2_ n3_ n4_
               refine start_ (n:=26) (S:=fun w' => w'.cell? ⟨gb226,0,none⟩ = some (.int .i64 ((rd_T39 l0_2 x5_2).f0)) ∧ w'.cell? ⟨gb226,1,none⟩ = some (.int .i64 ((rd_T39 l0_2 x5_2).f1)) ∧ w'.cell? ⟨gb226,2,none⟩ = some (.int .i64 ((rd_T39 l0_2 x5_2).f2)) ∧ w'.cell? ⟨gb226,3,none⟩ = some (.string ((rd_T39 l0_2 x5_2).f3)) ∧ w'.cell? ⟨gb221,0,none⟩ = some (.int .i64 x222000_2) ∧ w'.cell? ⟨gb221,1,none⟩ = some (.int .i64 x222001_2) ∧ w'.cell? ⟨gb221,2,none⟩ = some (.int .i64 x222002_2) ∧ w'.cell? ⟨gb221,((rd_T39 l0_2 x5_2).f0).toNat,none⟩ = some (.int .i64 (at3 ((rd_T39 l0_2 x5_2).f0) x222000_2 x222001_2 x222002_2))) (ds := []) (bm 26 0) (by kernel_rfl) rfl rfl ⟨(blk_cell BK226.out 0).trans rfl,(blk_cell BK226.out 1).trans rfl,(blk_cell BK226.out 2).trans rfl,(blk_cell BK226.out 3).trans rfl,(blk_cell BK221.out 0).trans rfl,(blk_cell BK221.out 1).trans rfl,(blk_cell BK221.out 2).trans rfl,at3_cell0 (od) (od) ((blk_cell BK221.out 0).trans rfl) ((blk_cell BK221.out 1).trans rfl) ((blk_cell BK221.out 2).trans rfl)⟩ (fun hHeld => ?_); refine with_tabW spec_StateOK.tab9 spec_StateOK.bits9 (fun HT_ HW_ => ?_)
               generalize w46.drew = w47 at HO_4 BK218 BK221 BK226 HB hHeld ⊢
               refine pV_ 0 48 (bm 26 1) HT_.out ?_
               refine pV_ 2 50 (bm 26 5) HT_.out ?_
               refine pV_ 4 52 (bm 26 21) HT_.out ?_
               refine pV_ 6 54 (bm 26 85) HT_.out ?_
               refine take_ (i:=1) (N:=some 49) (v:=?_) (a':=?_) (bm 26 87) rfl rfl (take_ofW HT_.out HW_.out (by kernel_rfl)) (fun _ _ _ h => h) (Or.inl ⟨by rfl,?_⟩) hHeld ?_ ?_
               rotate_left
               ·rintro w' ⟨s0,s1,s2,s3,s4,s5,s6,s7⟩
                go_simp
                with_reducible rfl
               rotate_left
               ·simp only [Act.put,setIfInBounds_toArray,set_cons_zero,set_cons_succ,i64_w,i32_w]
                rfl
               refine take_ (i:=3) (N:=some 51) (v:=?_) (a':=?_) (bm 26 95) rfl rfl (take_ofW HT_.out HW_.out (by kernel_rfl)) (fun _ _ _ h => h) (Or.inl ⟨by rfl,?_⟩) hHeld ?_ ?_
               rotate_left
               ·rintro w' ⟨s0,s1,s2,s3,s4,s5,s6,s7⟩
                go_simp
                with_reducible rfl
               rotate_left
               ·simp only [Act.put,setIfInBounds_toArray,set_cons_zero,set_cons_succ,i64_w,i32_w]
                rfl
               refine take_ (i:=5) (N:=some 53) (v:=?_) (a':=?_) (bm 26 127) rfl rfl (take_ofW HT_.out HW_.out (by kernel_rfl)) (fun _ _ _ h => h) (Or.inl ⟨by rfl,?_⟩) hHeld ?_ ?_
               rotate_left
               ·rintro w' ⟨s0,s1,s2,s3,s4,s5,s6,s7⟩
                go_simp
                with_reducible rfl
               rotate_left
               ·simp only [Act.put,setIfInBounds_toArray,set_cons_zero,set_cons_succ,i64_w,i32_w]
                rfl
               refine take_ (i:=7) (N:=some 55) (v:=?_) (a':=?_) (bm 26 255) rfl rfl (take_ofW HT_.out HW_.out (by kernel_rfl)) (fun _ _ _ h => h) (Or.inl ⟨by rfl,?_⟩) hHeld ?_ ?_
               rotate_left
               ·rintro w' ⟨s0,s1,s2,s3,s4,s5,s6,s7⟩
                go_simp
                with_reducible rfl
               rotate_left
               ·simp only [Act.put,setIfInBounds_toArray,set_cons_zero,set_cons_succ,i64_w,i32_w]
                rfl
               refine pV_ 8 56 (bm 26 511) HT_.out ?_
               refine one_ (i:=9) (N:=some 57) (bm 26 1023) rfl rfl (one_of HT_.out (by kernel_rfl)) (by decide) (fun K hK => ?_)
               refine goes_ Tryd.func19 (by kernel_rfl) rfl #[.agg #[.int .i64 0,.int .i64 0,.int .i64 ((rd_T39 l0_2 x5_2).f0),.int .i64 ((rd_T39 l0_2 x5_2).f1),.int .i64 ((rd_T39 l0_2 x5_2).f2),.string ((rd_T39 l0_2 x5_2).f3)],.int .i64 0] (by rfl) rfl rfl mA ?_
               with_reducible refine (spec_l06Tiered.calls k2 0 0 ((rd_T39 l0_2 x5_2).f0) ((rd_T39 l0_2 x5_2).f1) ((rd_T39 l0_2 x5_2).f2) ((rd_T39 l0_2 x5_2).f3) 0 true _ A20.out).mono ?_
               rintro e w48 ⟨rfl,hb⟩
               refine ⟨_,rfl,?_⟩
               have n0_ := Aside0.mk (Kd.R_below (rA HO_4.out) hb)
               have n1_ := Aside0.mk (blk_below (g:=gb218) (o:=.cells #[.int .i64 a0_0,.int .i64 a0_1,.slice (some ad225) l0_2.length c0_2,.slice A0_3 l0_3.length c0_3,.int .i64 a0_4,.int .i64 a0_5,.int .i64 a0_6,.int .i64 a0_7,.int .i64 a0_8,.int .i64 a0_9] 32 (0,0)) (kA BK218.out) hb)
               have n2_ := Aside0.mk (blk_below (g:=gb221) (o:=.cells #[.int .i64 x222000_2,.int .i64 x222001_2,.int .i64 x222002_2] 24 (0,0)) (kA BK221.out) hb)
               have n3_ := Aside0.mk (blk_below (g:=gb226) (o:=.cells #[.int .i64 ((rd_T39 l0_2 x5_2).f0),.int .i64 ((rd_T39 l0_2 x5_2).f1),.int .i64 ((rd_T39 l0_2 x5_2).f2),.string ((rd_T39 l0_2 x5_2).f3)] 39 (0,0)) (kA BK226.out) hb)
               have n4_ := Aside0.mk (below_step bA hb)
               clear HO_4
               clear BK218
               clear BK221
               clear BK226
               clear HB
               have HO_4 := n0_
               have BK218 := n1_
               have BK221 := n2_
               have BK226 := n3_
               have HB := n4_
               clear n0_ n1_ n2_ n3_ n4_
               (try clear hb)
               (try clear hb2)
               (try clear hk)
               (try clear hi)
               have hia49 := ia_dyn0 (P:=Tryd.prog) (t:=24) (e:=3) Tryd.underlying24 (by kernel_rfl) (by kernel_rfl) gb221 ((rd_T39 l0_2 x5_2).f0) (od) (od)
               obtain ⟨Ao50,co50,eo50⟩ := Kd.R_slice HO_4.out
               (first | subst eo50 | (injection eo50 with f1_ f2_ f3_; have f4_ := f1_.symm; have f5_ := f3_.symm; clear f1_ f2_ f3_; subst f4_; subst f5_))
               refine hK.out _ _ ⟨(blk_cell BK226.out 0).trans rfl,(blk_cell BK226.out 1).trans rfl,(blk_cell BK226.out 2).trans rfl,(blk_cell BK226.out 3).trans rfl,(blk_cell BK221.out 0).trans rfl,(blk_cell BK221.out 1).trans rfl,(blk_cell BK221.out 2).trans rfl,at3_cell0 (od) (od) ((blk_cell BK221.out 0).trans rfl) ((blk_cell BK221.out 1).trans rfl) ((blk_cell BK221.out 2).trans rfl)⟩ (fun hHeld => ?_)
               clear hK K
               refine norm_ (a':=?_) ?_ ?_
               rotate_left
               ·show Act.put _ (some 57) _ = _
                simp only [Act.put,setIfInBounds_toArray,set_cons_zero,set_cons_succ,i64_w,i32_w]
                rfl
               refine pV_ 10 58 (bm 26 2047) HT_.out ?_
               refine pV_ 11 59 (bm 26 4095) HT_.out ?_
               refine pV_ 12 60 (bm 26 8191) HT_.out ?_
               refine pV_ 14 62 (bm 26 24575) HT_.out ?_
               refine take_ (i:=13) (N:=some 61) (v:=?_) (a':=?_) (bm 26 32767) rfl rfl (take_ofW HT_.out HW_.out (by kernel_rfl)) (fun _ _ _ h => h) (Or.inl ⟨by rfl,?_⟩) hHeld ?_ ?_
               rotate_left
               ·rintro w' ⟨s0,s1,s2,s3,s4,s5,s6,s7⟩
                go_simp
                with_reducible rfl
               rotate_left
               ·simp only [Act.put,setIfInBounds_toArray,set_cons_zero,set_cons_succ,i64_w,i32_w]
                rfl
               refine take_ (i:=15) (N:=some 63) (v:=?_) (a':=?_) (bm 26 65535) rfl rfl (take_ofW HT_.out HW_.out (by kernel_rfl)) (fun _ _ _ h => h) (Or.inl ⟨by rfl,?_⟩) hHeld ?_ ?_
               rotate_left
               ·rintro w' ⟨s0,s1,s2,s3,s4,s5,s6,s7⟩
                go_simp
                with_reducible rfl
               rotate_left
               ·simp only [Act.put,setIfInBounds_toArray,set_cons_zero,set_cons_succ,i64_w,i32_w]
                rfl
               refine pV_ 16 64 (bm 26 131071) HT_.out ?_
               refine take_ (i:=17) (N:=some 65) (v:=?_) (a':=?_) (bm 26 262143) rfl rfl (take_ofW HT_.out HW_.out (by kernel_rfl)) (fun _ _ _ h => h) (Or.inl ⟨by rfl,?_⟩) hHeld ?_ ?_
               rotate_left
               ·rintro w' ⟨s0,s1,s2,s3,s4,s5,s6,s7⟩
                go_simp
                with_reducible rfl
               rotate_left
               ·simp only [Act.put,setIfInBounds_toArray,set_cons_zero,set_cons_succ,i64_w,i32_w]
                rfl
               refine pV_ 18 66 (bm 26 524287) HT_.out ?_
               refine pV_ 19 67 (bm 26 1048575) HT_.out ?_
               refine pV_ 20 68 (bm 26 2097151) HT_.out ?_
               refine pV_ 21 69 (bm 26 4194303) HT_.out ?_
               refine pV_ 22 70 (bm 26 8388607) HT_.out ?_
               refine take_ (i:=23) (N:=some 71) (v:=?_) (a':=?_) (bm 26 16777215) rfl rfl (take_ofW HT_.out HW_.out (by kernel_rfl)) (fun _ _ _ h => h) (Or.inl ⟨by rfl,?_⟩) hHeld ?_ ?_
               rotate_left
               ·rintro w' ⟨s0,s1,s2,s3,s4,s5,s6,s7⟩
                go_simp
                with_reducible rfl
               rotate_left
               ·simp only [Act.put,setIfInBounds_toArray,set_cons_zero,set_cons_succ,i64_w,i32_w]
                rfl
               refine one_ (i:=24) (N:=some 72) (bm 26 33554431) rfl rfl (one_of HT_.out (by kernel_rfl)) (by decide) (fun K hK => ?_)
               refine goes_ Tryd.func20 (by kernel_rfl) rfl #[.slice Ao50 x4_2.length co50,.string ((rd_T39 l0_2 x5_2).f3)] (by rfl) rfl rfl mA ?_
               with_reducible refine (spec_l06In.calls k2 _ _ x4_2 ((rd_T39 l0_2 x5_2).f3) false _ ?side1 ?side2 A25.out).mono ?_
               (case side1 => repeat (first | exact (Kd.R_reads' HO_4.out).2.2 | (with_reducible refine Kd.C_alloc ?_ _) | (with_reducible refine Kd.C_drewN ?_ _) | (with_reducible refine Kd.C_drew ?_)))
               (case side2 => exact (Kd.R_reads' HO_4.out).2.1)
               rintro e w' ⟨rfl,⟨nd,rfl⟩⟩
               refine ⟨_,rfl,?_⟩
               refine hK.out _ _ ⟨(blk_cell BK226.out 0).trans rfl,(blk_cell BK226.out 1).trans rfl,(blk_cell BK226.out 2).trans rfl,(blk_cell BK226.out 3).trans rfl,(blk_cell BK221.out 0).trans rfl,(blk_cell BK221.out 1).trans rfl,(blk_cell BK221.out 2).trans rfl,at3_cell0 (od) (od) ((blk_cell BK221.out 0).trans rfl) ((blk_cell BK221.out 1).trans rfl) ((blk_cell BK221.out 2).trans rfl)⟩ (fun hHeld => ?_)
               clear hK K
               refine norm_ (a':=?_) ?_ ?_
               rotate_left
               ·show Act.put _ (some 72) _ = _
                simp only [Act.put,setIfInBounds_toArray,set_cons_zero,set_cons_succ,i64_w,i32_w]
                rfl
               refine pV_ 25 73 (bm 26 67108863) HT_.out ?_
               refine done_ (done_of HT_.out (by kernel_rfl)) ?_
               obtain ⟨hcz51_0,hcz51_1,hcz51_2,hcz51_3⟩ := cl4 BK226.out
               obtain ⟨hfz51_0,hfz51_1,hfz51_2,hfz51_3⟩ := fz4 BK226.out
               try clear hia49
               have hia52 := ia_lit (P:=Tryd.prog) (t:=24) (e:=3) Tryd.underlying24 (by kernel_rfl) (by kernel_rfl) gb221 0 0 ((rd_T39 l0_2 x5_2).f0) (by decide) (beq_iff_eq.mp (by first | (with_reducible assumption) | assumption))
               (try simp only [Nat.reduceAdd,Nat.zero_add] at hia52)
               obtain ⟨hcz53_0,hcz53_1,hcz53_2⟩ := cl3 BK221.out
               obtain ⟨hfz53_0,hfz53_1,hfz53_2⟩ := fz3 BK221.out
               try go_wp2_with (first | ((with_reducible refine gate_builtin (b:=.append) (xs := #[.tmp 79,.tmp 82]) rfl ?_); (try (refine gate_guard (by rfl) ?_; dsimp only)); at_builtin; refine Kd.R_append Kd.string (w0 := w) w.heap.size rfl (.tmp 79) (.tmp 82) 47 9 (.string ⟨#[]⟩) 16 rfl Tryd.underlying47 info9 rfl (by decide) (by omega) (.slice Ao50 x4_2.length co50) x4_2 ((rd_T39 l0_2 x5_2).f3) [.string ((rd_T39 l0_2 x5_2).f3)] (fun _ => True) (fun _ => False) rfl (by first | (go_simp; done) | (go_simp; rfl)) ?aP (fun _ hk => hk.elim) ?aF ?aO ?aB ?aS ?aL ?_; (case aP => exact rfl); (case aB => exact bA); (case aF => exact (fun _ _ => trivial)); (case aO => exact (by (with_reducible repeat (first | apply Kd.R_alloc | apply Kd.R_drewN | apply Kd.R_drew)); exact Kd.R_mono (Kd.R_far (p:=⟨gb221,0,none⟩) (Kd.R_types HO_4.out BK221.out (by decide)) (fun _ hk => hk.2) (.int .i64 ((rd_T39 l0_2 x5_2).f2))) (fun _ hk => trivial))); (case aS => exact (below_size bA)); (case aL => have := LMc39.out; omega); intro v230 w54 ho hb hg hat; rw [← Ny229.out] at ho; have n0_ := Aside0.mk (blk_grown (g:=gb218) (o:=.cells #[.int .i64 a0_0,.int .i64 a0_1,.slice (some ad225) l0_2.length c0_2,.slice A0_3 l0_3.length c0_3,.int .i64 a0_4,.int .i64 a0_5,.int .i64 a0_6,.int .i64 a0_7,.int .i64 a0_8,.int .i64 a0_9] 32 (0,0)) (kF BK218.out) hg (Kd.R_ne HO_4.out BK218.out (by decide))); have n1_ := Aside0.mk (blk_grown (g:=gb221) (o:=.cells #[.int .i64 ((rd_T39 l0_2 x5_2).f2),.int .i64 x222001_2,.int .i64 x222002_2] 24 (0,0)) (by (with_reducible repeat (first | refine blk_drewN ?_ _ | refine blk_drew ?_ | refine blk_alloc ?_ _)); refine blk_put (cs := #[.int .i64 x222000_2,.int .i64 x222001_2,.int .i64 x222002_2]) ?_ 0 _ rfl; (with_reducible repeat (first | refine blk_drewN ?_ _ | refine blk_drew ?_ | refine blk_alloc ?_ _)); exact BK221.out) hg (Kd.R_ne HO_4.out BK221.out (by decide))); have n2_ := Aside0.mk (blk_grown (g:=gb226) (o:=.cells #[.int .i64 ((rd_T39 l0_2 x5_2).f0),.int .i64 ((rd_T39 l0_2 x5_2).f1),.int .i64 ((rd_T39 l0_2 x5_2).f2),.string ((rd_T39 l0_2 x5_2).f3)] 39 (0,0)) (kF BK226.out) hg (Kd.R_ne HO_4.out BK226.out (by decide))); have n3_ := Aside0.mk (hb); have n4_ := Aside0.mk (ho); clear BK218; clear BK221; clear BK226; clear HB; clear HO_4; have BK218 := n0_; have BK221 := n1_; have BK226 := n2_; have HB := n3_; have HO231 := n4_; clear n0_ n1_ n2_ n3_ n4_; clear ho hb hg hat))
               go_roundg k2
               case measure => have := HJ1.out; have := HK2.out; omega
               case rel => exact ⟨(y229),(wrap64 (x5_2 + 1)),((rd_T39 l0_2 x5_2).f2),(x222001_2),(x222002_2),(by first | rfl | (simp; done) | (simp [*]; done)),H',⟨by have := HJ1.out; have := HK2.out; omega⟩,⟨rA HO231.out⟩,⟨kA BK218.out⟩,⟨kA BK221.out⟩,⟨bA⟩⟩
              ·rw [if_neg c39] at H
               exact absurd H (by simp)
             ·rw [if_neg c38] at H
              have c38b0 : (((rd_T39 l0_2 x5_2).f0) == 0) = false := beq_eq_false_iff_ne.mpr c38
              have c38b1 : (((rd_T39 l0_2 x5_2).f0) != 0) = true := bne_iff_ne.mpr c38
              by_cases c55 : ((rd_T39 l0_2 x5_2).f0) = 1
              ·rw [if_pos c55] at H
               have c55b0 : (((rd_T39 l0_2 x5_2).f0) == 1) = true := beq_iff_eq.mpr c55
               have c55b1 : (((rd_T39 l0_2 x5_2).f0) != 1) = false := bne_eq_false_iff_eq.mpr c55
               clear c55
               by_cases c56 : x4_2.length < 8796093022208
               ·rw [if_pos c56] at H
                have LMc56 := Aside0.mk c56
                clear c56
                obtain ⟨y232,hy232⟩ : ∃ y_ : List ByteArray,y_ = (x4_2 ++ [(rd_T39 l0_2 x5_2).f3]) := ⟨_,rfl⟩
                replace H : (spec_StateOK.l0 k2 y232 (wrap64 (x5_2 + 1)) a0_0 a0_1 l0_2 l0_3 a0_4 a0_5 a0_6 a0_7 a0_8 a0_9 x222000_2 ((rd_T39 l0_2 x5_2).f2) x222002_2) = some r := by first | (rw [hy232]; with_reducible exact H) | (have H2_ := (Option.bind_some _ _).symm.trans H; rw [hy232]; with_reducible exact H2_) | (have H2_ := (Option.bind_some _ _).symm.trans H; with_reducible exact H2_) | with_reducible exact H | (rw [hy232]; exact H) | exact H
                have Ny232 := Aside0.mk hy232
                clear hy232
                have H' := Aside0.mk H
                clear H
                have hnb57 := NB218_221.out
                have hnc57 := NB221_218.out
                obtain ⟨hcz58_0,hcz58_1,hcz58_2,hcz58_3,hcz58_4,hcz58_5,hcz58_6,hcz58_7,hcz58_8,hcz58_9⟩ := cl10 BK218.out
                obtain ⟨hfz58_0,hfz58_1,hfz58_2,hfz58_3,hfz58_4,hfz58_5,hfz58_6,hfz58_7,hfz58_8,hfz58_9⟩ := fz10 BK218.out
                have p225 : 0 ≤ (x5_2 : Int) := od
                have q225 : x5_2 < (l0_2.length : Int) := od
                obtain ⟨ad225,e225,hx225_0,hx225_1,hx225_2,hx225_3⟩ := at_T39 HR0_2.out x5_2 p225 q225
                cases e225
                replace hx225_0 := cb HB.out hx225_0
                replace hx225_1 := cb HB.out hx225_1
                replace hx225_2 := cb HB.out hx225_2
                replace hx225_3 := cb HB.out hx225_3
                replace p225 := eq_true p225
                replace q225 := eq_true q225
                try go_wp2_with (first | ((with_reducible refine gate_dst (N:=6) rfl ?_); (try (refine gate_guard (by rfl) ?_; dsimp only)); refine box_event ?hg (N:=6) ?hd (cs := #[.int .i64 0,.int .i64 0,.int .i64 0,.string (⟨#[]⟩ : ByteArray)]) (t:=39) ?hr ?_; (case hd => rfl); (case hg => rfl); (case hr => first | (go_simp; done) | (go_simp; rfl)); intro gb226 hg w59 hbox hb; have n0_ := Aside0.mk (Kd.R_below (rA HO_4.out) hb); have n1_ := Aside0.mk (blk_below (g:=gb218) (o:=.cells #[.int .i64 a0_0,.int .i64 a0_1,.slice (some ad225) l0_2.length c0_2,.slice A0_3 l0_3.length c0_3,.int .i64 a0_4,.int .i64 a0_5,.int .i64 a0_6,.int .i64 a0_7,.int .i64 a0_8,.int .i64 a0_9] 32 (0,0)) (kA BK218.out) hb); have n2_ := Aside0.mk (blk_below (g:=gb221) (o:=.cells #[.int .i64 x222000_2,.int .i64 x222001_2,.int .i64 x222002_2] 24 (0,0)) (kA BK221.out) hb); have n3_ := Aside0.mk (below_step bA hb); have n4_ := Aside0.mk (hbox); have n5_ := Aside0.mk ((gw hg : w.heap.size ≤ gb226)); have n6_ := Aside0.mk ((gw hg : w.heap.size ≤ gb226)); have n7_ := Aside0.mk ((by rw [hg]; exact Nat.ne_of_lt (blk_lt (g:=gb218) (o:=.cells #[.int .i64 a0_0,.int .i64 a0_1,.slice (some ad225) l0_2.length c0_2,.slice A0_3 l0_3.length c0_3,.int .i64 a0_4,.int .i64 a0_5,.int .i64 a0_6,.int .i64 a0_7,.int .i64 a0_8,.int .i64 a0_9] 32 (0,0)) (kA BK218.out)) : gb218 ≠ gb226)); have n8_ := Aside0.mk ((by rw [hg]; exact Nat.ne_of_gt (blk_lt (g:=gb218) (o:=.cells #[.int .i64 a0_0,.int .i64 a0_1,.slice (some ad225) l0_2.length c0_2,.slice A0_3 l0_3.length c0_3,.int .i64 a0_4,.int .i64 a0_5,.int .i64 a0_6,.int .i64 a0_7,.int .i64 a0_8,.int .i64 a0_9] 32 (0,0)) (kA BK218.out)) : gb226 ≠ gb218)); have n9_ := Aside0.mk ((by rw [hg]; exact Nat.ne_of_lt (blk_lt (g:=gb221) (o:=.cells #[.int .i64 x222000_2,.int .i64 x222001_2,.int .i64 x222002_2] 24 (0,0)) (kA BK221.out)) : gb221 ≠ gb226)); have n10_ := Aside0.mk ((by rw [hg]; exact Nat.ne_of_gt (blk_lt (g:=gb221) (o:=.cells #[.int .i64 x222000_2,.int .i64 x222001_2,.int .i64 x222002_2] 24 (0,0)) (kA BK221.out)) : gb226 ≠ gb221)); clear HO_4; clear BK218; clear BK221; clear HB; have HO_4 := n0_; have BK218 := n1_; have BK221 := n2_; have HB := n3_; have BK226 := n4_; have GW226 := n5_; have GE226 := n6_; have NB218_226 := n7_; have NB226_218 := n8_; have NB221_226 := n9_; have NB226_221 := n10_; clear n0_ n1_ n2_ n3_ n4_ n5_ n6_ n7_ n8_ n9_ n10_; clear hb hbox hg; have hnb60 := NB226_218.out; have hnc60 := NB218_226.out; have hnb61 := NB226_221.out; have hnc61 := NB221_226.out; obtain ⟨hcz62_0,hcz62_1,hcz62_2,hcz62_3⟩ := cl4 BK226.out; obtain ⟨hfz62_0,hfz62_1,hfz62_2,hfz62_3⟩ := fz4 BK226.out))
                have n0_ : Aside0 (Kd.R Kd.string 9 ((((w59.setCell ⟨gb226,0,none⟩ (.int .i64 ((rd_T39 l0_2 x5_2).f0))).setCell ⟨gb226,1,none⟩ (.int .i64 ((rd_T39 l0_2 x5_2).f1))).setCell ⟨gb226,2,none⟩ (.int .i64 ((rd_T39 l0_2 x5_2).f2))).setCell ⟨gb226,3,none⟩ (.string ((rd_T39 l0_2 x5_2).f3))) w.heap.size (fun _ => True) u4 x4_2) := ⟨by (with_reducible repeat (first | apply Kd.R_alloc | apply Kd.R_drewN | apply Kd.R_drew)); exact Kd.R_mono (Kd.R_far (p:=⟨gb226,3,none⟩) (Kd.R_far (p:=⟨gb226,2,none⟩) (Kd.R_far (p:=⟨gb226,1,none⟩) (Kd.R_far (p:=⟨gb226,0,none⟩) (Kd.R_types HO_4.out BK226.out (by decide)) (fun _ hk => hk.2) (.int .i64 ((rd_T39 l0_2 x5_2).f0))) (fun _ hk => hk.2) (.int .i64 ((rd_T39 l0_2 x5_2).f1))) (fun _ hk => hk.2) (.int .i64 ((rd_T39 l0_2 x5_2).f2))) (fun _ hk => hk.2) (.string ((rd_T39 l0_2 x5_2).f3))) (fun _ hk => trivial)⟩
                have n1_ : Aside0 (((((w59.setCell ⟨gb226,0,none⟩ (.int .i64 ((rd_T39 l0_2 x5_2).f0))).setCell ⟨gb226,1,none⟩ (.int .i64 ((rd_T39 l0_2 x5_2).f1))).setCell ⟨gb226,2,none⟩ (.int .i64 ((rd_T39 l0_2 x5_2).f2))).setCell ⟨gb226,3,none⟩ (.string ((rd_T39 l0_2 x5_2).f3))).heap[gb218]? = some (.cells #[.int .i64 a0_0,.int .i64 a0_1,.slice (some ad225) l0_2.length c0_2,.slice A0_3 l0_3.length c0_3,.int .i64 a0_4,.int .i64 a0_5,.int .i64 a0_6,.int .i64 a0_7,.int .i64 a0_8,.int .i64 a0_9] 32 (0,0))) := ⟨kF BK218.out⟩
                have n2_ : Aside0 (((((w59.setCell ⟨gb226,0,none⟩ (.int .i64 ((rd_T39 l0_2 x5_2).f0))).setCell ⟨gb226,1,none⟩ (.int .i64 ((rd_T39 l0_2 x5_2).f1))).setCell ⟨gb226,2,none⟩ (.int .i64 ((rd_T39 l0_2 x5_2).f2))).setCell ⟨gb226,3,none⟩ (.string ((rd_T39 l0_2 x5_2).f3))).heap[gb221]? = some (.cells #[.int .i64 x222000_2,.int .i64 x222001_2,.int .i64 x222002_2] 24 (0,0))) := ⟨kF BK221.out⟩
                have n3_ : Aside0 (((((w59.setCell ⟨gb226,0,none⟩ (.int .i64 ((rd_T39 l0_2 x5_2).f0))).setCell ⟨gb226,1,none⟩ (.int .i64 ((rd_T39 l0_2 x5_2).f1))).setCell ⟨gb226,2,none⟩ (.int .i64 ((rd_T39 l0_2 x5_2).f2))).setCell ⟨gb226,3,none⟩ (.string ((rd_T39 l0_2 x5_2).f3))).heap[gb226]? = some (.cells #[.int .i64 ((rd_T39 l0_2 x5_2).f0),.int .i64 ((rd_T39 l0_2 x5_2).f1),.int .i64 ((rd_T39 l0_2 x5_2).f2),.string ((rd_T39 l0_2 x5_2).f3)] 39 (0,0))) := ⟨by (with_reducible repeat (first | refine blk_drewN ?_ _ | refine blk_drew ?_ | refine blk_alloc ?_ _)); refine blk_put (cs := #[.int .i64 ((rd_T39 l0_2 x5_2).f0),.int .i64 ((rd_T39 l0_2 x5_2).f1),.int .i64 ((rd_T39 l0_2 x5_2).f2),.string (⟨#[]⟩ : ByteArray)]) ?_ 3 _ rfl; (with_reducible repeat (first | refine blk_drewN ?_ _ | refine blk_drew ?_ | refine blk_alloc ?_ _)); refine blk_put (cs := #[.int .i64 ((rd_T39 l0_2 x5_2).f0),.int .i64 ((rd_T39 l0_2 x5_2).f1),.int .i64 0,.string (⟨#[]⟩ : ByteArray)]) ?_ 2 _ rfl; (with_reducible repeat (first | refine blk_drewN ?_ _ | refine blk_drew ?_ | refine blk_alloc ?_ _)); refine blk_put (cs := #[.int .i64 ((rd_T39 l0_2 x5_2).f0),.int .i64 0,.int .i64 0,.string (⟨#[]⟩ : ByteArray)]) ?_ 1 _ rfl; (with_reducible repeat (first | refine blk_drewN ?_ _ | refine blk_drew ?_ | refine blk_alloc ?_ _)); refine blk_put (cs := #[.int .i64 0,.int .i64 0,.int .i64 0,.string (⟨#[]⟩ : ByteArray)]) ?_ 0 _ rfl; (with_reducible repeat (first | refine blk_drewN ?_ _ | refine blk_drew ?_ | refine blk_alloc ?_ _)); exact BK226.out⟩
                have n4_ : Aside0 (Below w.heap.size w ((((w59.setCell ⟨gb226,0,none⟩ (.int .i64 ((rd_T39 l0_2 x5_2).f0))).setCell ⟨gb226,1,none⟩ (.int .i64 ((rd_T39 l0_2 x5_2).f1))).setCell ⟨gb226,2,none⟩ (.int .i64 ((rd_T39 l0_2 x5_2).f2))).setCell ⟨gb226,3,none⟩ (.string ((rd_T39 l0_2 x5_2).f3)))) := ⟨bA⟩
                (try clear HO_4)
                (try clear BK218)
                (try clear BK221)
                (try clear BK226)
                (try clear HB)
                generalize ((((w59.setCell ⟨gb226,0,none⟩ (.int .i64 ((rd_T39 l0_2 x5_2).f0))).setCell ⟨gb226,1,none⟩ (.int .i64 ((rd_T39 l0_2 x5_2).f1))).setCell ⟨gb226,2,none⟩ (.int .i64 ((rd_T39 l0_2 x5_2).f2))).setCell ⟨gb226,3,none⟩ (.string ((rd_T39 l0_2 x5_2).f3))) = w63 at n0_ n1_ n2_ n3_ n4_ ⊢
                have HO_4 := n0_
                have BK218 := n1_
                have BK221 := n2_
                have BK226 := n3_
                have HB := n4_
                clear n0_ n1_ n2_ n3_ n4_
                have n0_ := Aside0.mk (Kd.R_drew HO_4.out)
                have n1_ := Aside0.mk (blk_drew BK218.out)
                have n2_ := Aside0.mk (blk_drew BK221.out)
                have n3_ := Aside0.mk (blk_drew BK226.out)
                have n4_ := Aside0.mk (below_drew1 HB.out)
                clear HO_4
                clear BK218
                clear BK221
                clear BK226
                clear HB
                have HO_4 := n0_
                have BK218 := n1_
                have BK221 := n2_
                have BK226 := n3_
                have HB := n4_
                clear n0_ n1_ n2_ n3_ n4_
                refine start_ (n:=26) (S:=fun w' => w'.cell? ⟨gb226,0,none⟩ = some (.int .i64 ((rd_T39 l0_2 x5_2).f0)) ∧ w'.cell? ⟨gb226,1,none⟩ = some (.int .i64 ((rd_T39 l0_2 x5_2).f1)) ∧ w'.cell? ⟨gb226,2,none⟩ = some (.int .i64 ((rd_T39 l0_2 x5_2).f2)) ∧ w'.cell? ⟨gb226,3,none⟩ = some (.string ((rd_T39 l0_2 x5_2).f3)) ∧ w'.cell? ⟨gb221,0,none⟩ = some (.int .i64 x222000_2) ∧ w'.cell? ⟨gb221,1,none⟩ = some (.int .i64 x222001_2) ∧ w'.cell? ⟨gb221,2,none⟩ = some (.int .i64 x222002_2) ∧ w'.cell? ⟨gb221,((rd_T39 l0_2 x5_2).f0).toNat,none⟩ = some (.int .i64 (at3 ((rd_T39 l0_2 x5_2).f0) x222000_2 x222001_2 x222002_2))) (ds := []) (bm 26 0) (by kernel_rfl) rfl rfl ⟨(blk_cell BK226.out 0).trans rfl,(blk_cell BK226.out 1).trans rfl,(blk_cell BK226.out 2).trans rfl,(blk_cell BK226.out 3).trans rfl,(blk_cell BK221.out 0).trans rfl,(blk_cell BK221.out 1).trans rfl,(blk_cell BK221.out 2).trans rfl,at3_cell0 (od) (od) ((blk_cell BK221.out 0).trans rfl) ((blk_cell BK221.out 1).trans rfl) ((blk_cell BK221.out 2).trans rfl)⟩ (fun hHeld => ?_); refine with_tabW spec_StateOK.tab9 spec_StateOK.bits9 (fun HT_ HW_ => ?_)
                generalize w63.drew = w64 at HO_4 BK218 BK221 BK226 HB hHeld ⊢
                refine pV_ 0 48 (bm 26 1) HT_.out ?_
                refine pV_ 2 50 (bm 26 5) HT_.out ?_
                refine pV_ 4 52 (bm 26 21) HT_.out ?_
                refine pV_ 6 54 (bm 26 85) HT_.out ?_
                refine take_ (i:=1) (N:=some 49) (v:=?_) (a':=?_) (bm 26 87) rfl rfl (take_ofW HT_.out HW_.out (by kernel_rfl)) (fun _ _ _ h => h) (Or.inl ⟨by rfl,?_⟩) hHeld ?_ ?_
                rotate_left
                ·rintro w' ⟨s0,s1,s2,s3,s4,s5,s6,s7⟩
                 go_simp
                 with_reducible rfl
                rotate_left
                ·simp only [Act.put,setIfInBounds_toArray,set_cons_zero,set_cons_succ,i64_w,i32_w]
                 rfl
                refine take_ (i:=3) (N:=some 51) (v:=?_) (a':=?_) (bm 26 95) rfl rfl (take_ofW HT_.out HW_.out (by kernel_rfl)) (fun _ _ _ h => h) (Or.inl ⟨by rfl,?_⟩) hHeld ?_ ?_
                rotate_left
                ·rintro w' ⟨s0,s1,s2,s3,s4,s5,s6,s7⟩
                 go_simp
                 with_reducible rfl
                rotate_left
                ·simp only [Act.put,setIfInBounds_toArray,set_cons_zero,set_cons_succ,i64_w,i32_w]
                 rfl
                refine take_ (i:=5) (N:=some 53) (v:=?_) (a':=?_) (bm 26 127) rfl rfl (take_ofW HT_.out HW_.out (by kernel_rfl)) (fun _ _ _ h => h) (Or.inl ⟨by rfl,?_⟩) hHeld ?_ ?_
                rotate_left
                ·rintro w' ⟨s0,s1,s2,s3,s4,s5,s6,s7⟩
                 go_simp
                 with_reducible rfl
                rotate_left
                ·simp only [Act.put,setIfInBounds_toArray,set_cons_zero,set_cons_succ,i64_w,i32_w]
                 rfl
                refine take_ (i:=7) (N:=some 55) (v:=?_) (a':=?_) (bm 26 255) rfl rfl (take_ofW HT_.out HW_.out (by kernel_rfl)) (fun _ _ _ h => h) (Or.inl ⟨by rfl,?_⟩) hHeld ?_ ?_
                rotate_left
                ·rintro w' ⟨s0,s1,s2,s3,s4,s5,s6,s7⟩
                 go_simp
                 with_reducible rfl
                rotate_left
                ·simp only [Act.put,setIfInBounds_toArray,set_cons_zero,set_cons_succ,i64_w,i32_w]
                 rfl
                refine pV_ 8 56 (bm 26 511) HT_.out ?_
                refine one_ (i:=9) (N:=some 57) (bm 26 1023) rfl rfl (one_of HT_.out (by kernel_rfl)) (by decide) (fun K hK => ?_)
                refine goes_ Tryd.func19 (by kernel_rfl) rfl #[.agg #[.int .i64 0,.int .i64 0,.int .i64 ((rd_T39 l0_2 x5_2).f0),.int .i64 ((rd_T39 l0_2 x5_2).f1),.int .i64 ((rd_T39 l0_2 x5_2).f2),.string ((rd_T39 l0_2 x5_2).f3)],.int .i64 0] (by rfl) rfl rfl mA ?_
                with_reducible refine (spec_l06Tiered.calls k2 0 0 ((rd_T39 l0_2 x5_2).f0) ((rd_T39 l0_2 x5_2).f1) ((rd_T39 l0_2 x5_2).f2) ((rd_T39 l0_2 x5_2).f3) 0 true _ A20.out).mono ?_
                rintro e w65 ⟨rfl,hb⟩
                refine ⟨_,rfl,?_⟩
                have n0_ := Aside0.mk (Kd.R_below (rA HO_4.out) hb)
                have n1_ := Aside0.mk (blk_below (g:=gb218) (o:=.cells #[.int .i64 a0_0,.int .i64 a0_1,.slice (some ad225) l0_2.length c0_2,.slice A0_3 l0_3.length c0_3,.int .i64 a0_4,.int .i64 a0_5,.int .i64 a0_6,.int .i64 a0_7,.int .i64 a0_8,.int .i64 a0_9] 32 (0,0)) (kA BK218.out) hb)
                have n2_ := Aside0.mk (blk_below (g:=gb221) (o:=.cells #[.int .i64 x222000_2,.int .i64 x222001_2,.int .i64 x222002_2] 24 (0,0)) (kA BK221.out) hb)
                have n3_ := Aside0.mk (blk_below (g:=gb226) (o:=.cells #[.int .i64 ((rd_T39 l0_2 x5_2).f0),.int .i64 ((rd_T39 l0_2 x5_2).f1),.int .i64 ((rd_T39 l0_2 x5_2).f2),.string ((rd_T39 l0_2 x5_2).f3)] 39 (0,0)) (kA BK226.out) hb)
                have n4_ := Aside0.mk (below_step bA hb)
                clear HO_4
                clear BK218
                clear BK221
                clear BK226
                clear HB
                have HO_4 := n0_
                have BK218 := n1_
                have BK221 := n2_
                have BK226 := n3_
                have HB := n4_
                clear n0_ n1_ n2_ n3_ n4_
                (try clear hb)
                (try clear hb2)
                (try clear hk)
                (try clear hi)
                have hia66 := ia_dyn0 (P:=Tryd.prog) (t:=24) (e:=3) Tryd.underlying24 (by kernel_rfl) (by kernel_rfl) gb221 ((rd_T39 l0_2 x5_2).f0) (od) (od)
                obtain ⟨Ao67,co67,eo67⟩ := Kd.R_slice HO_4.out
                (first | subst eo67 | (injection eo67 with f1_ f2_ f3_; have f4_ := f1_.symm; have f5_ := f3_.symm; clear f1_ f2_ f3_; subst f4_; subst f5_))
                refine hK.out _ _ ⟨(blk_cell BK226.out 0).trans rfl,(blk_cell BK226.out 1).trans rfl,(blk_cell BK226.out 2).trans rfl,(blk_cell BK226.out 3).trans rfl,(blk_cell BK221.out 0).trans rfl,(blk_cell BK221.out 1).trans rfl,(blk_cell BK221.out 2).trans rfl,at3_cell0 (od) (od) ((blk_cell BK221.out 0).trans rfl) ((blk_cell BK221.out 1).trans rfl) ((blk_cell BK221.out 2).trans rfl)⟩ (fun hHeld => ?_)
                clear hK K
                refine norm_ (a':=?_) ?_ ?_
                rotate_left
                ·show Act.put _ (some 57) _ = _
                 simp only [Act.put,setIfInBounds_toArray,set_cons_zero,set_cons_succ,i64_w,i32_w]
                 rfl
                refine pV_ 10 58 (bm 26 2047) HT_.out ?_
                refine pV_ 11 59 (bm 26 4095) HT_.out ?_
                refine pV_ 12 60 (bm 26 8191) HT_.out ?_
                refine pV_ 14 62 (bm 26 24575) HT_.out ?_
                refine take_ (i:=13) (N:=some 61) (v:=?_) (a':=?_) (bm 26 32767) rfl rfl (take_ofW HT_.out HW_.out (by kernel_rfl)) (fun _ _ _ h => h) (Or.inl ⟨by rfl,?_⟩) hHeld ?_ ?_
                rotate_left
                ·rintro w' ⟨s0,s1,s2,s3,s4,s5,s6,s7⟩
                 go_simp
                 with_reducible rfl
                rotate_left
                ·simp only [Act.put,setIfInBounds_toArray,set_cons_zero,set_cons_succ,i64_w,i32_w]
                 rfl
                refine take_ (i:=15) (N:=some 63) (v:=?_) (a':=?_) (bm 26 65535) rfl rfl (take_ofW HT_.out HW_.out (by kernel_rfl)) (fun _ _ _ h => h) (Or.inl ⟨by rfl,?_⟩) hHeld ?_ ?_
                rotate_left
                ·rintro w' ⟨s0,s1,s2,s3,s4,s5,s6,s7⟩
                 go_simp
                 with_reducible rfl
                rotate_left
                ·simp only [Act.put,setIfInBounds_toArray,set_cons_zero,set_cons_succ,i64_w,i32_w]
                 rfl
                refine pV_ 16 64 (bm 26 131071) HT_.out ?_
                refine take_ (i:=17) (N:=some 65) (v:=?_) (a':=?_) (bm 26 262143) rfl rfl (take_ofW HT_.out HW_.out (by kernel_rfl)) (fun _ _ _ h => h) (Or.inl ⟨by rfl,?_⟩) hHeld ?_ ?_
                rotate_left
                ·rintro w' ⟨s0,s1,s2,s3,s4,s5,s6,s7⟩
                 go_simp
                 with_reducible rfl
                rotate_left
                ·simp only [Act.put,setIfInBounds_toArray,set_cons_zero,set_cons_succ,i64_w,i32_w]
                 rfl
                refine pV_ 18 66 (bm 26 524287) HT_.out ?_
                refine pV_ 19 67 (bm 26 1048575) HT_.out ?_
                refine pV_ 20 68 (bm 26 2097151) HT_.out ?_
                refine pV_ 21 69 (bm 26 4194303) HT_.out ?_
                refine pV_ 22 70 (bm 26 8388607) HT_.out ?_
                refine take_ (i:=23) (N:=some 71) (v:=?_) (a':=?_) (bm 26 16777215) rfl rfl (take_ofW HT_.out HW_.out (by kernel_rfl)) (fun _ _ _ h => h) (Or.inl ⟨by rfl,?_⟩) hHeld ?_ ?_
                rotate_left
                ·rintro w' ⟨s0,s1,s2,s3,s4,s5,s6,s7⟩
                 go_simp
                 with_reducible rfl
                rotate_left
                ·simp only [Act.put,setIfInBounds_toArray,set_cons_zero,set_cons_succ,i64_w,i32_w]
                 rfl
                refine one_ (i:=24) (N:=some 72) (bm 26 33554431) rfl rfl (one_of HT_.out (by kernel_rfl)) (by decide) (fun K hK => ?_)
                refine goes_ Tryd.func20 (by kernel_rfl) rfl #[.slice Ao67 x4_2.length co67,.string ((rd_T39 l0_2 x5_2).f3)] (by rfl) rfl rfl mA ?_
                with_reducible refine (spec_l06In.calls k2 _ _ x4_2 ((rd_T39 l0_2 x5_2).f3) false _ ?side1 ?side2 A25.out).mono ?_
                (case side1 => repeat (first | exact (Kd.R_reads' HO_4.out).2.2 | (with_reducible refine Kd.C_alloc ?_ _) | (with_reducible refine Kd.C_drewN ?_ _) | (with_reducible refine Kd.C_drew ?_)))
                (case side2 => exact (Kd.R_reads' HO_4.out).2.1)
                rintro e w' ⟨rfl,⟨nd,rfl⟩⟩
                refine ⟨_,rfl,?_⟩
                refine hK.out _ _ ⟨(blk_cell BK226.out 0).trans rfl,(blk_cell BK226.out 1).trans rfl,(blk_cell BK226.out 2).trans rfl,(blk_cell BK226.out 3).trans rfl,(blk_cell BK221.out 0).trans rfl,(blk_cell BK221.out 1).trans rfl,(blk_cell BK221.out 2).trans rfl,at3_cell0 (od) (od) ((blk_cell BK221.out 0).trans rfl) ((blk_cell BK221.out 1).trans rfl) ((blk_cell BK221.out 2).trans rfl)⟩ (fun hHeld => ?_)
                clear hK K
                refine norm_ (a':=?_) ?_ ?_
                rotate_left
                ·show Act.put _ (some 72) _ = _
                 simp only [Act.put,setIfInBounds_toArray,set_cons_zero,set_cons_succ,i64_w,i32_w]
                 rfl
                refine pV_ 25 73 (bm 26 67108863) HT_.out ?_
                refine done_ (done_of HT_.out (by kernel_rfl)) ?_
                obtain ⟨hcz68_0,hcz68_1,hcz68_2,hcz68_3⟩ := cl4 BK226.out
                obtain ⟨hfz68_0,hfz68_1,hfz68_2,hfz68_3⟩ := fz4 BK226.out
                try clear hia66
                have hia69 := ia_lit (P:=Tryd.prog) (t:=24) (e:=3) Tryd.underlying24 (by kernel_rfl) (by kernel_rfl) gb221 0 1 ((rd_T39 l0_2 x5_2).f0) (by decide) (beq_iff_eq.mp (by first | (with_reducible assumption) | assumption))
                (try simp only [Nat.reduceAdd,Nat.zero_add] at hia69)
                obtain ⟨hcz70_0,hcz70_1,hcz70_2⟩ := cl3 BK221.out
                obtain ⟨hfz70_0,hfz70_1,hfz70_2⟩ := fz3 BK221.out
                try go_wp2_with (first | ((with_reducible refine gate_builtin (b:=.append) (xs := #[.tmp 79,.tmp 82]) rfl ?_); (try (refine gate_guard (by rfl) ?_; dsimp only)); at_builtin; refine Kd.R_append Kd.string (w0 := w) w.heap.size rfl (.tmp 79) (.tmp 82) 47 9 (.string ⟨#[]⟩) 16 rfl Tryd.underlying47 info9 rfl (by decide) (by omega) (.slice Ao67 x4_2.length co67) x4_2 ((rd_T39 l0_2 x5_2).f3) [.string ((rd_T39 l0_2 x5_2).f3)] (fun _ => True) (fun _ => False) rfl (by first | (go_simp; done) | (go_simp; rfl)) ?aP (fun _ hk => hk.elim) ?aF ?aO ?aB ?aS ?aL ?_; (case aP => exact rfl); (case aB => exact bA); (case aF => exact (fun _ _ => trivial)); (case aO => exact (by (with_reducible repeat (first | apply Kd.R_alloc | apply Kd.R_drewN | apply Kd.R_drew)); exact Kd.R_mono (Kd.R_far (p:=⟨gb221,1,none⟩) (Kd.R_types HO_4.out BK221.out (by decide)) (fun _ hk => hk.2) (.int .i64 ((rd_T39 l0_2 x5_2).f2))) (fun _ hk => trivial))); (case aS => exact (below_size bA)); (case aL => have := LMc56.out; omega); intro v233 w71 ho hb hg hat; rw [← Ny232.out] at ho; have n0_ := Aside0.mk (blk_grown (g:=gb218) (o:=.cells #[.int .i64 a0_0,.int .i64 a0_1,.slice (some ad225) l0_2.length c0_2,.slice A0_3 l0_3.length c0_3,.int .i64 a0_4,.int .i64 a0_5,.int .i64 a0_6,.int .i64 a0_7,.int .i64 a0_8,.int .i64 a0_9] 32 (0,0)) (kF BK218.out) hg (Kd.R_ne HO_4.out BK218.out (by decide))); have n1_ := Aside0.mk (blk_grown (g:=gb221) (o:=.cells #[.int .i64 x222000_2,.int .i64 ((rd_T39 l0_2 x5_2).f2),.int .i64 x222002_2] 24 (0,0)) (by (with_reducible repeat (first | refine blk_drewN ?_ _ | refine blk_drew ?_ | refine blk_alloc ?_ _)); refine blk_put (cs := #[.int .i64 x222000_2,.int .i64 x222001_2,.int .i64 x222002_2]) ?_ 1 _ rfl; (with_reducible repeat (first | refine blk_drewN ?_ _ | refine blk_drew ?_ | refine blk_alloc ?_ _)); exact BK221.out) hg (Kd.R_ne HO_4.out BK221.out (by decide))); have n2_ := Aside0.mk (blk_grown (g:=gb226) (o:=.cells #[.int .i64 ((rd_T39 l0_2 x5_2).f0),.int .i64 ((rd_T39 l0_2 x5_2).f1),.int .i64 ((rd_T39 l0_2 x5_2).f2),.string ((rd_T39 l0_2 x5_2).f3)] 39 (0,0)) (kF BK226.out) hg (Kd.R_ne HO_4.out BK226.out (by decide))); have n3_ := Aside0.mk (hb); have n4_ := Aside0.mk (ho); clear BK218; clear BK221; clear BK226; clear HB; clear HO_4; have BK218 := n0_; have BK221 := n1_; have BK226 := n2_; have HB := n3_; have HO234 := n4_; clear n0_ n1_ n2_ n3_ n4_; clear ho hb hg hat))
                go_roundg k2
                case measure => have := HJ1.out; have := HK2.out; omega
                case rel => exact ⟨(y232),(wrap64 (x5_2 + 1)),(x222000_2),((rd_T39 l0_2 x5_2).f2),(x222002_2),(by first | rfl | (simp; done) | (simp [*]; done)),H',⟨by have := HJ1.out; have := HK2.out; omega⟩,⟨rA HO234.out⟩,⟨kA BK218.out⟩,⟨kA BK221.out⟩,⟨bA⟩⟩
               ·rw [if_neg c56] at H
                exact absurd H (by simp)
              ·rw [if_neg c55] at H
               have c55b0 : (((rd_T39 l0_2 x5_2).f0) == 1) = false := beq_eq_false_iff_ne.mpr c55
               have c55b1 : (((rd_T39 l0_2 x5_2).f0) != 1) = true := bne_iff_ne.mpr c55
               by_cases c72 : ((rd_T39 l0_2 x5_2).f0) = 2
               ·rw [if_pos c72] at H
                have c72b0 : (((rd_T39 l0_2 x5_2).f0) == 2) = true := beq_iff_eq.mpr c72
                have c72b1 : (((rd_T39 l0_2 x5_2).f0) != 2) = false := bne_eq_false_iff_eq.mpr c72
                clear c72
                by_cases c73 : x4_2.length < 8796093022208
                ·rw [if_pos c73] at H
                 have LMc73 := Aside0.mk c73
                 clear c73
                 obtain ⟨y235,hy235⟩ : ∃ y_ : List ByteArray,y_ = (x4_2 ++ [(rd_T39 l0_2 x5_2).f3]) := ⟨_,rfl⟩
                 replace H : (spec_StateOK.l0 k2 y235 (wrap64 (x5_2 + 1)) a0_0 a0_1 l0_2 l0_3 a0_4 a0_5 a0_6 a0_7 a0_8 a0_9 x222000_2 x222001_2 ((rd_T39 l0_2 x5_2).f2)) = some r := by first | (rw [hy235]; with_reducible exact H) | (have H2_ := (Option.bind_some _ _).symm.trans H; rw [hy235]; with_reducible exact H2_) | (have H2_ := (Option.bind_some _ _).symm.trans H; with_reducible exact H2_) | with_reducible exact H | (rw [hy235]; exact H) | exact H
                 have Ny235 := Aside0.mk hy235
                 clear hy235
                 have H' := Aside0.mk H
                 clear H
                 have hnb74 := NB218_221.out
                 have hnc74 := NB221_218.out
                 obtain ⟨hcz75_0,hcz75_1,hcz75_2,hcz75_3,hcz75_4,hcz75_5,hcz75_6,hcz75_7,hcz75_8,hcz75_9⟩ := cl10 BK218.out
                 obtain ⟨hfz75_0,hfz75_1,hfz75_2,hfz75_3,hfz75_4,hfz75_5,hfz75_6,hfz75_7,hfz75_8,hfz75_9⟩ := fz10 BK218.out
                 have p225 : 0 ≤ (x5_2 : Int) := od
                 have q225 : x5_2 < (l0_2.length : Int) := od
                 obtain ⟨ad225,e225,hx225_0,hx225_1,hx225_2,hx225_3⟩ := at_T39 HR0_2.out x5_2 p225 q225
                 cases e225
                 replace hx225_0 := cb HB.out hx225_0
                 replace hx225_1 := cb HB.out hx225_1
                 replace hx225_2 := cb HB.out hx225_2
                 replace hx225_3 := cb HB.out hx225_3
                 replace p225 := eq_true p225
                 replace q225 := eq_true q225
                 try go_wp2_with (first | ((with_reducible refine gate_dst (N:=6) rfl ?_); (try (refine gate_guard (by rfl) ?_; dsimp only)); refine box_event ?hg (N:=6) ?hd (cs := #[.int .i64 0,.int .i64 0,.int .i64 0,.string (⟨#[]⟩ : ByteArray)]) (t:=39) ?hr ?_; (case hd => rfl); (case hg => rfl); (case hr => first | (go_simp; done) | (go_simp; rfl)); intro gb226 hg w76 hbox hb; have n0_ := Aside0.mk (Kd.R_below (rA HO_4.out) hb); have n1_ := Aside0.mk (blk_below (g:=gb218) (o:=.cells #[.int .i64 a0_0,.int .i64 a0_1,.slice (some ad225) l0_2.length c0_2,.slice A0_3 l0_3.length c0_3,.int .i64 a0_4,.int .i64 a0_5,.int .i64 a0_6,.int .i64 a0_7,.int .i64 a0_8,.int .i64 a0_9] 32 (0,0)) (kA BK218.out) hb); have n2_ := Aside0.mk (blk_below (g:=gb221) (o:=.cells #[.int .i64 x222000_2,.int .i64 x222001_2,.int .i64 x222002_2] 24 (0,0)) (kA BK221.out) hb); have n3_ := Aside0.mk (below_step bA hb); have n4_ := Aside0.mk (hbox); have n5_ := Aside0.mk ((gw hg : w.heap.size ≤ gb226)); have n6_ := Aside0.mk ((gw hg : w.heap.size ≤ gb226)); have n7_ := Aside0.mk ((by rw [hg]; exact Nat.ne_of_lt (blk_lt (g:=gb218) (o:=.cells #[.int .i64 a0_0,.int .i64 a0_1,.slice (some ad225) l0_2.length c0_2,.slice A0_3 l0_3.length c0_3,.int .i64 a0_4,.int .i64 a0_5,.int .i64 a0_6,.int .i64 a0_7,.int .i64 a0_8,.int .i64 a0_9] 32 (0,0)) (kA BK218.out)) : gb218 ≠ gb226)); have n8_ := Aside0.mk ((by rw [hg]; exact Nat.ne_of_gt (blk_lt (g:=gb218) (o:=.cells #[.int .i64 a0_0,.int .i64 a0_1,.slice (some ad225) l0_2.length c0_2,.slice A0_3 l0_3.length c0_3,.int .i64 a0_4,.int .i64 a0_5,.int .i64 a0_6,.int .i64 a0_7,.int .i64 a0_8,.int .i64 a0_9] 32 (0,0)) (kA BK218.out)) : gb226 ≠ gb218)); have n9_ := Aside0.mk ((by rw [hg]; exact Nat.ne_of_lt (blk_lt (g:=gb221) (o:=.cells #[.int .i64 x222000_2,.int .i64 x222001_2,.int .i64 x222002_2] 24 (0,0)) (kA BK221.out)) : gb221 ≠ gb226)); have n10_ := Aside0.mk ((by rw [hg]; exact Nat.ne_of_gt (blk_lt (g:=gb221) (o:=.cells #[.int .i64 x222000_2,.int .i64 x222001_2,.int .i64 x222002_2] 24 (0,0)) (kA BK221.out)) : gb226 ≠ gb221)); clear HO_4; clear BK218; clear BK221; clear HB; have HO_4 := n0_; have BK218 := n1_; have BK221 := n2_; have HB := n3_; have BK226 := n4_; have GW226 := n5_; have GE226 := n6_; have NB218_226 := n7_; have NB226_218 := n8_; have NB221_226 := n9_; have NB226_221 := n10_; clear n0_ n1_ n2_ n3_ n4_ n5_ n6_ n7_ n8_ n9_ n10_; clear hb hbox hg; have hnb77 := NB226_218.out; have hnc77 := NB218_226.out; have hnb78 := NB226_221.out; have hnc78 := NB221_226.out; obtain ⟨hcz79_0,hcz79_1,hcz79_2,hcz79_3⟩ := cl4 BK226.out; obtain ⟨hfz79_0,hfz79_1,hfz79_2,hfz79_3⟩ := fz4 BK226.out))
                 have n0_ : Aside0 (Kd.R Kd.string 9 ((((w76.setCell ⟨gb226,0,none⟩ (.int .i64 ((rd_T39 l0_2 x5_2).f0))).setCell ⟨gb226,1,none⟩ (.int .i64 ((rd_T39 l0_2 x5_2).f1))).setCell ⟨gb226,2,none⟩ (.int .i64 ((rd_T39 l0_2 x5_2).f2))).setCell ⟨gb226,3,none⟩ (.string ((rd_T39 l0_2 x5_2).f3))) w.heap.size (fun _ => True) u4 x4_2) := ⟨by (with_reducible repeat (first | apply Kd.R_alloc | apply Kd.R_drewN | apply Kd.R_drew)); exact Kd.R_mono (Kd.R_far (p:=⟨gb226,3,none⟩) (Kd.R_far (p:=⟨gb226,2,none⟩) (Kd.R_far (p:=⟨gb226,1,none⟩) (Kd.R_far (p:=⟨gb226,0,none⟩) (Kd.R_types HO_4.out BK226.out (by decide)) (fun _ hk => hk.2) (.int .i64 ((rd_T39 l0_2 x5_2).f0))) (fun _ hk => hk.2) (.int .i64 ((rd_T39 l0_2 x5_2).f1))) (fun _ hk => hk.2) (.int .i64 ((rd_T39 l0_2 x5_2).f2))) (fun _ hk => hk.2) (.string ((rd_T39 l0_2 x5_2).f3))) (fun _ hk => trivial)⟩
                 have n1_ : Aside0 (((((w76.setCell ⟨gb226,0,none⟩ (.int .i64 ((rd_T39 l0_2 x5_2).f0))).setCell ⟨gb226,1,none⟩ (.int .i64 ((rd_T39 l0_2 x5_2).f1))).setCell ⟨gb226,2,none⟩ (.int .i64 ((rd_T39 l0_2 x5_2).f2))).setCell ⟨gb226,3,none⟩ (.string ((rd_T39 l0_2 x5_2).f3))).heap[gb218]? = some (.cells #[.int .i64 a0_0,.int .i64 a0_1,.slice (some ad225) l0_2.length c0_2,.slice A0_3 l0_3.length c0_3,.int .i64 a0_4,.int .i64 a0_5,.int .i64 a0_6,.int .i64 a0_7,.int .i64 a0_8,.int .i64 a0_9] 32 (0,0))) := ⟨kF BK218.out⟩
                 have n2_ : Aside0 (((((w76.setCell ⟨gb226,0,none⟩ (.int .i64 ((rd_T39 l0_2 x5_2).f0))).setCell ⟨gb226,1,none⟩ (.int .i64 ((rd_T39 l0_2 x5_2).f1))).setCell ⟨gb226,2,none⟩ (.int .i64 ((rd_T39 l0_2 x5_2).f2))).setCell ⟨gb226,3,none⟩ (.string ((rd_T39 l0_2 x5_2).f3))).heap[gb221]? = some (.cells #[.int .i64 x222000_2,.int .i64 x222001_2,.int .i64 x222002_2] 24 (0,0))) := ⟨kF BK221.out⟩
                 have n3_ : Aside0 (((((w76.setCell ⟨gb226,0,none⟩ (.int .i64 ((rd_T39 l0_2 x5_2).f0))).setCell ⟨gb226,1,none⟩ (.int .i64 ((rd_T39 l0_2 x5_2).f1))).setCell ⟨gb226,2,none⟩ (.int .i64 ((rd_T39 l0_2 x5_2).f2))).setCell ⟨gb226,3,none⟩ (.string ((rd_T39 l0_2 x5_2).f3))).heap[gb226]? = some (.cells #[.int .i64 ((rd_T39 l0_2 x5_2).f0),.int .i64 ((rd_T39 l0_2 x5_2).f1),.int .i64 ((rd_T39 l0_2 x5_2).f2),.string ((rd_T39 l0_2 x5_2).f3)] 39 (0,0))) := ⟨by (with_reducible repeat (first | refine blk_drewN ?_ _ | refine blk_drew ?_ | refine blk_alloc ?_ _)); refine blk_put (cs := #[.int .i64 ((rd_T39 l0_2 x5_2).f0),.int .i64 ((rd_T39 l0_2 x5_2).f1),.int .i64 ((rd_T39 l0_2 x5_2).f2),.string (⟨#[]⟩ : ByteArray)]) ?_ 3 _ rfl; (with_reducible repeat (first | refine blk_drewN ?_ _ | refine blk_drew ?_ | refine blk_alloc ?_ _)); refine blk_put (cs := #[.int .i64 ((rd_T39 l0_2 x5_2).f0),.int .i64 ((rd_T39 l0_2 x5_2).f1),.int .i64 0,.string (⟨#[]⟩ : ByteArray)]) ?_ 2 _ rfl; (with_reducible repeat (first | refine blk_drewN ?_ _ | refine blk_drew ?_ | refine blk_alloc ?_ _)); refine blk_put (cs := #[.int .i64 ((rd_T39 l0_2 x5_2).f0),.int .i64 0,.int .i64 0,.string (⟨#[]⟩ : ByteArray)]) ?_ 1 _ rfl; (with_reducible repeat (first | refine blk_drewN ?_ _ | refine blk_drew ?_ | refine blk_alloc ?_ _)); refine blk_put (cs := #[.int .i64 0,.int .i64 0,.int .i64 0,.string (⟨#[]⟩ : ByteArray)]) ?_ 0 _ rfl; (with_reducible repeat (first | refine blk_drewN ?_ _ | refine blk_drew ?_ | refine blk_alloc ?_ _)); exact BK226.out⟩
                 have n4_ : Aside0 (Below w.heap.size w ((((w76.setCell ⟨gb226,0,none⟩ (.int .i64 ((rd_T39 l0_2 x5_2).f0))).setCell ⟨gb226,1,none⟩ (.int .i64 ((rd_T39 l0_2 x5_2).f1))).setCell ⟨gb226,2,none⟩ (.int .i64 ((rd_T39 l0_2 x5_2).f2))).setCell ⟨gb226,3,none⟩ (.string ((rd_T39 l0_2 x5_2).f3)))) := ⟨bA⟩
                 (try clear HO_4)
                 (try clear BK218)
                 (try clear BK221)
                 (try clear BK226)
                 (try clear HB)
                 generalize ((((w76.setCell ⟨gb226,0,none⟩ (.int .i64 ((rd_T39 l0_2 x5_2).f0))).setCell ⟨gb226,1,none⟩ (.int .i64 ((rd_T39 l0_2 x5_2).f1))).setCell ⟨gb226,2,none⟩ (.int .i64 ((rd_T39 l0_2 x5_2).f2))).setCell ⟨gb226,3,none⟩ (.string ((rd_T39 l0_2 x5_2).f3))) = w80 at n0_ n1_ n2_ n3_ n4_ ⊢
                 have HO_4 := n0_
                 have BK218 := n1_
                 have BK221 := n2_
                 have BK226 := n3_
                 have HB := n4_
                 clear n0_ n1_ n2_ n3_ n4_
                 have n0_ := Aside0.mk (Kd.R_drew HO_4.out)
                 have n1_ := Aside0.mk (blk_drew BK218.out)
                 have n2_ := Aside0.mk (blk_drew BK221.out)
                 have n3_ := Aside0.mk (blk_drew BK226.out)
                 have n4_ := Aside0.mk (below_drew1 HB.out)
                 clear HO_4
                 clear BK218
                 clear BK221
                 clear BK226
                 clear HB
                 have HO_4 := n0_
                 have BK218 := n1_
                 have BK221 := n2_
                 have BK226 := n3_
                 have HB := n4_
                 clear n0_ n1_ n2_ n3_ n4_
                 refine start_ (n:=26) (S:=fun w' => w'.cell? ⟨gb226,0,none⟩ = some (.int .i64 ((rd_T39 l0_2 x5_2).f0)) ∧ w'.cell? ⟨gb226,1,none⟩ = some (.int .i64 ((rd_T39 l0_2 x5_2).f1)) ∧ w'.cell? ⟨gb226,2,none⟩ = some (.int .i64 ((rd_T39 l0_2 x5_2).f2)) ∧ w'.cell? ⟨gb226,3,none⟩ = some (.string ((rd_T39 l0_2 x5_2).f3)) ∧ w'.cell? ⟨gb221,0,none⟩ = some (.int .i64 x222000_2) ∧ w'.cell? ⟨gb221,1,none⟩ = some (.int .i64 x222001_2) ∧ w'.cell? ⟨gb221,2,none⟩ = some (.int .i64 x222002_2) ∧ w'.cell? ⟨gb221,((rd_T39 l0_2 x5_2).f0).toNat,none⟩ = some (.int .i64 (at3 ((rd_T39 l0_2 x5_2).f0) x222000_2 x222001_2 x222002_2))) (ds := []) (bm 26 0) (by kernel_rfl) rfl rfl ⟨(blk_cell BK226.out 0).trans rfl,(blk_cell BK226.out 1).trans rfl,(blk_cell BK226.out 2).trans rfl,(blk_cell BK226.out 3).trans rfl,(blk_cell BK221.out 0).trans rfl,(blk_cell BK221.out 1).trans rfl,(blk_cell BK221.out 2).trans rfl,at3_cell0 (od) (od) ((blk_cell BK221.out 0).trans rfl) ((blk_cell BK221.out 1).trans rfl) ((blk_cell BK221.out 2).trans rfl)⟩ (fun hHeld => ?_); refine with_tabW spec_StateOK.tab9 spec_StateOK.bits9 (fun HT_ HW_ => ?_)
                 generalize w80.drew = w81 at HO_4 BK218 BK221 BK226 HB hHeld ⊢
                 refine pV_ 0 48 (bm 26 1) HT_.out ?_
                 refine pV_ 2 50 (bm 26 5) HT_.out ?_
                 refine pV_ 4 52 (bm 26 21) HT_.out ?_
                 refine pV_ 6 54 (bm 26 85) HT_.out ?_
                 refine take_ (i:=1) (N:=some 49) (v:=?_) (a':=?_) (bm 26 87) rfl rfl (take_ofW HT_.out HW_.out (by kernel_rfl)) (fun _ _ _ h => h) (Or.inl ⟨by rfl,?_⟩) hHeld ?_ ?_
                 rotate_left
                 ·rintro w' ⟨s0,s1,s2,s3,s4,s5,s6,s7⟩
                  go_simp
                  with_reducible rfl
                 rotate_left
                 ·simp only [Act.put,setIfInBounds_toArray,set_cons_zero,set_cons_succ,i64_w,i32_w]
                  rfl
                 refine take_ (i:=3) (N:=some 51) (v:=?_) (a':=?_) (bm 26 95) rfl rfl (take_ofW HT_.out HW_.out (by kernel_rfl)) (fun _ _ _ h => h) (Or.inl ⟨by rfl,?_⟩) hHeld ?_ ?_
                 rotate_left
                 ·rintro w' ⟨s0,s1,s2,s3,s4,s5,s6,s7⟩
                  go_simp
                  with_reducible rfl
                 rotate_left
                 ·simp only [Act.put,setIfInBounds_toArray,set_cons_zero,set_cons_succ,i64_w,i32_w]
                  rfl
                 refine take_ (i:=5) (N:=some 53) (v:=?_) (a':=?_) (bm 26 127) rfl rfl (take_ofW HT_.out HW_.out (by kernel_rfl)) (fun _ _ _ h => h) (Or.inl ⟨by rfl,?_⟩) hHeld ?_ ?_
                 rotate_left
                 ·rintro w' ⟨s0,s1,s2,s3,s4,s5,s6,s7⟩
                  go_simp
                  with_reducible rfl
                 rotate_left
                 ·simp only [Act.put,setIfInBounds_toArray,set_cons_zero,set_cons_succ,i64_w,i32_w]
                  rfl
                 refine take_ (i:=7) (N:=some 55) (v:=?_) (a':=?_) (bm 26 255) rfl rfl (take_ofW HT_.out HW_.out (by kernel_rfl)) (fun _ _ _ h => h) (Or.inl ⟨by rfl,?_⟩) hHeld ?_ ?_
                 rotate_left
                 ·rintro w' ⟨s0,s1,s2,s3,s4,s5,s6,s7⟩
                  go_simp
                  with_reducible rfl
                 rotate_left
                 ·simp only [Act.put,setIfInBounds_toArray,set_cons_zero,set_cons_succ,i64_w,i32_w]
                  rfl
                 refine pV_ 8 56 (bm 26 511) HT_.out ?_
                 refine one_ (i:=9) (N:=some 57) (bm 26 1023) rfl rfl (one_of HT_.out (by kernel_rfl)) (by decide) (fun K hK => ?_)
                 refine goes_ Tryd.func19 (by kernel_rfl) rfl #[.agg #[.int .i64 0,.int .i64 0,.int .i64 ((rd_T39 l0_2 x5_2).f0),.int .i64 ((rd_T39 l0_2 x5_2).f1),.int .i64 ((rd_T39 l0_2 x5_2).f2),.string ((rd_T39 l0_2 x5_2).f3)],.int .i64 0] (by rfl) rfl rfl mA ?_
                 with_reducible refine (spec_l06Tiered.calls k2 0 0 ((rd_T39 l0_2 x5_2).f0) ((rd_T39 l0_2 x5_2).f1) ((rd_T39 l0_2 x5_2).f2) ((rd_T39 l0_2 x5_2).f3) 0 true _ A20.out).mono ?_
                 rintro e w82 ⟨rfl,hb⟩
                 refine ⟨_,rfl,?_⟩
                 have n0_ := Aside0.mk (Kd.R_below (rA HO_4.out) hb)
                 have n1_ := Aside0.mk (blk_below (g:=gb218) (o:=.cells #[.int .i64 a0_0,.int .i64 a0_1,.slice (some ad225) l0_2.length c0_2,.slice A0_3 l0_3.length c0_3,.int .i64 a0_4,.int .i64 a0_5,.int .i64 a0_6,.int .i64 a0_7,.int .i64 a0_8,.int .i64 a0_9] 32 (0,0)) (kA BK218.out) hb)
                 have n2_ := Aside0.mk (blk_below (g:=gb221) (o:=.cells #[.int .i64 x222000_2,.int .i64 x222001_2,.int .i64 x222002_2] 24 (0,0)) (kA BK221.out) hb)
                 have n3_ := Aside0.mk (blk_below (g:=gb226) (o:=.cells #[.int .i64 ((rd_T39 l0_2 x5_2).f0),.int .i64 ((rd_T39 l0_2 x5_2).f1),.int .i64 ((rd_T39 l0_2 x5_2).f2),.string ((rd_T39 l0_2 x5_2).f3)] 39 (0,0)) (kA BK226.out) hb)
                 have n4_ := Aside0.mk (below_step bA hb)
                 clear HO_4
                 clear BK218
                 clear BK221
                 clear BK226
                 clear HB
                 have HO_4 := n0_
                 have BK218 := n1_
                 have BK221 := n2_
                 have BK226 := n3_
                 have HB := n4_
                 clear n0_ n1_ n2_ n3_ n4_
                 (try clear hb)
                 (try clear hb2)
                 (try clear hk)
                 (try clear hi)
                 have hia83 := ia_dyn0 (P:=Tryd.prog) (t:=24) (e:=3) Tryd.underlying24 (by kernel_rfl) (by kernel_rfl) gb221 ((rd_T39 l0_2 x5_2).f0) (od) (od)
                 obtain ⟨Ao84,co84,eo84⟩ := Kd.R_slice HO_4.out
                 (first | subst eo84 | (injection eo84 with f1_ f2_ f3_; have f4_ := f1_.symm; have f5_ := f3_.symm; clear f1_ f2_ f3_; subst f4_; subst f5_))
                 refine hK.out _ _ ⟨(blk_cell BK226.out 0).trans rfl,(blk_cell BK226.out 1).trans rfl,(blk_cell BK226.out 2).trans rfl,(blk_cell BK226.out 3).trans rfl,(blk_cell BK221.out 0).trans rfl,(blk_cell BK221.out 1).trans rfl,(blk_cell BK221.out 2).trans rfl,at3_cell0 (od) (od) ((blk_cell BK221.out 0).trans rfl) ((blk_cell BK221.out 1).trans rfl) ((blk_cell BK221.out 2).trans rfl)⟩ (fun hHeld => ?_)
                 clear hK K
                 refine norm_ (a':=?_) ?_ ?_
                 rotate_left
                 ·show Act.put _ (some 57) _ = _
                  simp only [Act.put,setIfInBounds_toArray,set_cons_zero,set_cons_succ,i64_w,i32_w]
                  rfl
                 refine pV_ 10 58 (bm 26 2047) HT_.out ?_
                 refine pV_ 11 59 (bm 26 4095) HT_.out ?_
                 refine pV_ 12 60 (bm 26 8191) HT_.out ?_
                 refine pV_ 14 62 (bm 26 24575) HT_.out ?_
                 refine take_ (i:=13) (N:=some 61) (v:=?_) (a':=?_) (bm 26 32767) rfl rfl (take_ofW HT_.out HW_.out (by kernel_rfl)) (fun _ _ _ h => h) (Or.inl ⟨by rfl,?_⟩) hHeld ?_ ?_
                 rotate_left
                 ·rintro w' ⟨s0,s1,s2,s3,s4,s5,s6,s7⟩
                  go_simp
                  with_reducible rfl
                 rotate_left
                 ·simp only [Act.put,setIfInBounds_toArray,set_cons_zero,set_cons_succ,i64_w,i32_w]
                  rfl
                 refine take_ (i:=15) (N:=some 63) (v:=?_) (a':=?_) (bm 26 65535) rfl rfl (take_ofW HT_.out HW_.out (by kernel_rfl)) (fun _ _ _ h => h) (Or.inl ⟨by rfl,?_⟩) hHeld ?_ ?_
                 rotate_left
                 ·rintro w' ⟨s0,s1,s2,s3,s4,s5,s6,s7⟩
                  go_simp
                  with_reducible rfl
                 rotate_left
                 ·simp only [Act.put,setIfInBounds_toArray,set_cons_zero,set_cons_succ,i64_w,i32_w]
                  rfl
                 refine pV_ 16 64 (bm 26 131071) HT_.out ?_
                 refine take_ (i:=17) (N:=some 65) (v:=?_) (a':=?_) (bm 26 262143) rfl rfl (take_ofW HT_.out HW_.out (by kernel_rfl)) (fun _ _ _ h => h) (Or.inl ⟨by rfl,?_⟩) hHeld ?_ ?_
                 rotate_left
                 ·rintro w' ⟨s0,s1,s2,s3,s4,s5,s6,s7⟩
                  go_simp
                  with_reducible rfl
                 rotate_left
                 ·simp only [Act.put,setIfInBounds_toArray,set_cons_zero,set_cons_succ,i64_w,i32_w]
                  rfl
                 refine pV_ 18 66 (bm 26 524287) HT_.out ?_
                 refine pV_ 19 67 (bm 26 1048575) HT_.out ?_
                 refine pV_ 20 68 (bm 26 2097151) HT_.out ?_
                 refine pV_ 21 69 (bm 26 4194303) HT_.out ?_
                 refine pV_ 22 70 (bm 26 8388607) HT_.out ?_
                 refine take_ (i:=23) (N:=some 71) (v:=?_) (a':=?_) (bm 26 16777215) rfl rfl (take_ofW HT_.out HW_.out (by kernel_rfl)) (fun _ _ _ h => h) (Or.inl ⟨by rfl,?_⟩) hHeld ?_ ?_
                 rotate_left
                 ·rintro w' ⟨s0,s1,s2,s3,s4,s5,s6,s7⟩
                  go_simp
                  with_reducible rfl
                 rotate_left
                 ·simp only [Act.put,setIfInBounds_toArray,set_cons_zero,set_cons_succ,i64_w,i32_w]
                  rfl
                 refine one_ (i:=24) (N:=some 72) (bm 26 33554431) rfl rfl (one_of HT_.out (by kernel_rfl)) (by decide) (fun K hK => ?_)
                 refine goes_ Tryd.func20 (by kernel_rfl) rfl #[.slice Ao84 x4_2.length co84,.string ((rd_T39 l0_2 x5_2).f3)] (by rfl) rfl rfl mA ?_
                 with_reducible refine (spec_l06In.calls k2 _ _ x4_2 ((rd_T39 l0_2 x5_2).f3) false _ ?side1 ?side2 A25.out).mono ?_
                 (case side1 => repeat (first | exact (Kd.R_reads' HO_4.out).2.2 | (with_reducible refine Kd.C_alloc ?_ _) | (with_reducible refine Kd.C_drewN ?_ _) | (with_reducible refine Kd.C_drew ?_)))
                 (case side2 => exact (Kd.R_reads' HO_4.out).2.1)
                 rintro e w' ⟨rfl,⟨nd,rfl⟩⟩
                 refine ⟨_,rfl,?_⟩
                 refine hK.out _ _ ⟨(blk_cell BK226.out 0).trans rfl,(blk_cell BK226.out 1).trans rfl,(blk_cell BK226.out 2).trans rfl,(blk_cell BK226.out 3).trans rfl,(blk_cell BK221.out 0).trans rfl,(blk_cell BK221.out 1).trans rfl,(blk_cell BK221.out 2).trans rfl,at3_cell0 (od) (od) ((blk_cell BK221.out 0).trans rfl) ((blk_cell BK221.out 1).trans rfl) ((blk_cell BK221.out 2).trans rfl)⟩ (fun hHeld => ?_)
                 clear hK K
                 refine norm_ (a':=?_) ?_ ?_
                 rotate_left
                 ·show Act.put _ (some 72) _ = _
                  simp only [Act.put,setIfInBounds_toArray,set_cons_zero,set_cons_succ,i64_w,i32_w]
                  rfl
                 refine pV_ 25 73 (bm 26 67108863) HT_.out ?_
                 refine done_ (done_of HT_.out (by kernel_rfl)) ?_
                 obtain ⟨hcz85_0,hcz85_1,hcz85_2,hcz85_3⟩ := cl4 BK226.out
                 obtain ⟨hfz85_0,hfz85_1,hfz85_2,hfz85_3⟩ := fz4 BK226.out
                 try clear hia83
                 have hia86 := ia_lit (P:=Tryd.prog) (t:=24) (e:=3) Tryd.underlying24 (by kernel_rfl) (by kernel_rfl) gb221 0 2 ((rd_T39 l0_2 x5_2).f0) (by decide) (beq_iff_eq.mp (by first | (with_reducible assumption) | assumption))
                 (try simp only [Nat.reduceAdd,Nat.zero_add] at hia86)
                 obtain ⟨hcz87_0,hcz87_1,hcz87_2⟩ := cl3 BK221.out
                 obtain ⟨hfz87_0,hfz87_1,hfz87_2⟩ := fz3 BK221.out
                 try go_wp2_with (first | ((with_reducible refine gate_builtin (b:=.append) (xs := #[.tmp 79,.tmp 82]) rfl ?_); (try (refine gate_guard (by rfl) ?_; dsimp only)); at_builtin; refine Kd.R_append Kd.string (w0 := w) w.heap.size rfl (.tmp 79) (.tmp 82) 47 9 (.string ⟨#[]⟩) 16 rfl Tryd.underlying47 info9 rfl (by decide) (by omega) (.slice Ao84 x4_2.length co84) x4_2 ((rd_T39 l0_2 x5_2).f3) [.string ((rd_T39 l0_2 x5_2).f3)] (fun _ => True) (fun _ => False) rfl (by first | (go_simp; done) | (go_simp; rfl)) ?aP (fun _ hk => hk.elim) ?aF ?aO ?aB ?aS ?aL ?_; (case aP => exact rfl); (case aB => exact bA); (case aF => exact (fun _ _ => trivial)); (case aO => exact (by (with_reducible repeat (first | apply Kd.R_alloc | apply Kd.R_drewN | apply Kd.R_drew)); exact Kd.R_mono (Kd.R_far (p:=⟨gb221,2,none⟩) (Kd.R_types HO_4.out BK221.out (by decide)) (fun _ hk => hk.2) (.int .i64 ((rd_T39 l0_2 x5_2).f2))) (fun _ hk => trivial))); (case aS => exact (below_size bA)); (case aL => have := LMc73.out; omega); intro v236 w88 ho hb hg hat; rw [← Ny235.out] at ho; have n0_ := Aside0.mk (blk_grown (g:=gb218) (o:=.cells #[.int .i64 a0_0,.int .i64 a0_1,.slice (some ad225) l0_2.length c0_2,.slice A0_3 l0_3.length c0_3,.int .i64 a0_4,.int .i64 a0_5,.int .i64 a0_6,.int .i64 a0_7,.int .i64 a0_8,.int .i64 a0_9] 32 (0,0)) (kF BK218.out) hg (Kd.R_ne HO_4.out BK218.out (by decide))); have n1_ := Aside0.mk (blk_grown (g:=gb221) (o:=.cells #[.int .i64 x222000_2,.int .i64 x222001_2,.int .i64 ((rd_T39 l0_2 x5_2).f2)] 24 (0,0)) (by (with_reducible repeat (first | refine blk_drewN ?_ _ | refine blk_drew ?_ | refine blk_alloc ?_ _)); refine blk_put (cs := #[.int .i64 x222000_2,.int .i64 x222001_2,.int .i64 x222002_2]) ?_ 2 _ rfl; (with_reducible repeat (first | refine blk_drewN ?_ _ | refine blk_drew ?_ | refine blk_alloc ?_ _)); exact BK221.out) hg (Kd.R_ne HO_4.out BK221.out (by decide))); have n2_ := Aside0.mk (blk_grown (g:=gb226) (o:=.cells #[.int .i64 ((rd_T39 l0_2 x5_2).f0),.int .i64 ((rd_T39 l0_2 x5_2).f1),.int .i64 ((rd_T39 l0_2 x5_2).f2),.string ((rd_T39 l0_2 x5_2).f3)] 39 (0,0)) (kF BK226.out) hg (Kd.R_ne HO_4.out BK226.out (by decide))); have n3_ := Aside0.mk (hb); have n4_ := Aside0.mk (ho); clear BK218; clear BK221; clear BK226; clear HB; clear HO_4; have BK218 := n0_; have BK221 := n1_; have BK226 := n2_; have HB := n3_; have HO237 := n4_; clear n0_ n1_ n2_ n3_ n4_; clear ho hb hg hat))
                 go_roundg k2
                 case measure => have := HJ1.out; have := HK2.out; omega
                 case rel => exact ⟨(y235),(wrap64 (x5_2 + 1)),(x222000_2),(x222001_2),((rd_T39 l0_2 x5_2).f2),(by first | rfl | (simp; done) | (simp [*]; done)),H',⟨by have := HJ1.out; have := HK2.out; omega⟩,⟨rA HO237.out⟩,⟨kA BK218.out⟩,⟨kA BK221.out⟩,⟨bA⟩⟩
                ·rw [if_neg c73] at H
                 exact absurd H (by simp)
               ·rw [if_neg c72] at H
                exact absurd H (by simp)
           ·rw [if_neg c24] at H
            have c24b0 : (((rd_T39 l0_2 x5_2).f1) == (at3 ((rd_T39 l0_2 x5_2).f0) x222000_2 x222001_2 x222002_2)) = false := beq_eq_false_iff_ne.mpr c24
            have c24b1 : (((rd_T39 l0_2 x5_2).f1) != (at3 ((rd_T39 l0_2 x5_2).f0) x222000_2 x222001_2 x222002_2)) = true := bne_iff_ne.mpr c24
            obtain rfl := Option.some.inj H
            have hnb89 := NB218_221.out
            have hnc89 := NB221_218.out
            obtain ⟨hcz90_0,hcz90_1,hcz90_2,hcz90_3,hcz90_4,hcz90_5,hcz90_6,hcz90_7,hcz90_8,hcz90_9⟩ := cl10 BK218.out
            obtain ⟨hfz90_0,hfz90_1,hfz90_2,hfz90_3,hfz90_4,hfz90_5,hfz90_6,hfz90_7,hfz90_8,hfz90_9⟩ := fz10 BK218.out
            have p225 : 0 ≤ (x5_2 : Int) := od
            have q225 : x5_2 < (l0_2.length : Int) := od
            obtain ⟨ad225,e225,hx225_0,hx225_1,hx225_2,hx225_3⟩ := at_T39 HR0_2.out x5_2 p225 q225
            cases e225
            replace hx225_0 := cb HB.out hx225_0
            replace hx225_1 := cb HB.out hx225_1
            replace hx225_2 := cb HB.out hx225_2
            replace hx225_3 := cb HB.out hx225_3
            replace p225 := eq_true p225
            replace q225 := eq_true q225
            try go_wp2_with (first | ((with_reducible refine gate_dst (N:=6) rfl ?_); (try (refine gate_guard (by rfl) ?_; dsimp only)); refine box_event ?hg (N:=6) ?hd (cs := #[.int .i64 0,.int .i64 0,.int .i64 0,.string (⟨#[]⟩ : ByteArray)]) (t:=39) ?hr ?_; (case hd => rfl); (case hg => rfl); (case hr => first | (go_simp; done) | (go_simp; rfl)); intro gb226 hg w91 hbox hb; have n0_ := Aside0.mk (Kd.R_below (rA HO_4.out) hb); have n1_ := Aside0.mk (blk_below (g:=gb218) (o:=.cells #[.int .i64 a0_0,.int .i64 a0_1,.slice (some ad225) l0_2.length c0_2,.slice A0_3 l0_3.length c0_3,.int .i64 a0_4,.int .i64 a0_5,.int .i64 a0_6,.int .i64 a0_7,.int .i64 a0_8,.int .i64 a0_9] 32 (0,0)) (kA BK218.out) hb); have n2_ := Aside0.mk (blk_below (g:=gb221) (o:=.cells #[.int .i64 x222000_2,.int .i64 x222001_2,.int .i64 x222002_2] 24 (0,0)) (kA BK221.out) hb); have n3_ := Aside0.mk (below_step bA hb); have n4_ := Aside0.mk (hbox); have n5_ := Aside0.mk ((gw hg : w.heap.size ≤ gb226)); have n6_ := Aside0.mk ((gw hg : w.heap.size ≤ gb226)); have n7_ := Aside0.mk ((by rw [hg]; exact Nat.ne_of_lt (blk_lt (g:=gb218) (o:=.cells #[.int .i64 a0_0,.int .i64 a0_1,.slice (some ad225) l0_2.length c0_2,.slice A0_3 l0_3.length c0_3,.int .i64 a0_4,.int .i64 a0_5,.int .i64 a0_6,.int .i64 a0_7,.int .i64 a0_8,.int .i64 a0_9] 32 (0,0)) (kA BK218.out)) : gb218 ≠ gb226)); have n8_ := Aside0.mk ((by rw [hg]; exact Nat.ne_of_gt (blk_lt (g:=gb218) (o:=.cells #[.int .i64 a0_0,.int .i64 a0_1,.slice (some ad225) l0_2.length c0_2,.slice A0_3 l0_3.length c0_3,.int .i64 a0_4,.int .i64 a0_5,.int .i64 a0_6,.int .i64 a0_7,.int .i64 a0_8,.int .i64 a0_9] 32 (0,0)) (kA BK218.out)) : gb226 ≠ gb218)); have n9_ := Aside0.mk ((by rw [hg]; exact Nat.ne_of_lt (blk_lt (g:=gb221) (o:=.cells #[.int .i64 x222000_2,.int .i64 x222001_2,.int .i64 x222002_2] 24 (0,0)) (kA BK221.out)) : gb221 ≠ gb226)); have n10_ := Aside0.mk ((by rw [hg]; exact Nat.ne_of_gt (blk_lt (g:=gb221) (o:=.cells #[.int .i64 x222000_2,.int .i64 x222001_2,.int .i64 x222002_2] 24 (0,0)) (kA BK221.out)) : gb226 ≠ gb221)); clear HO_4; clear BK218; clear BK221; clear HB; have HO_4 := n0_; have BK218 := n1_; have BK221 := n2_; have HB := n3_; have BK226 := n4_; have GW226 := n5_; have GE226 := n6_; have NB218_226 := n7_; have NB226_218 := n8_; have NB221_226 := n9_; have NB226_221 := n10_; clear n0_ n1_ n2_ n3_ n4_ n5_ n6_ n7_ n8_ n9_ n10_; clear hb hbox hg; have hnb92 := NB226_218.out; have hnc92 := NB218_226.out; have hnb93 := NB226_221.out; have hnc93 := NB221_226.out; obtain ⟨hcz94_0,hcz94_1,hcz94_2,hcz94_3⟩ := cl4 BK226.out; obtain ⟨hfz94_0,hfz94_1,hfz94_2,hfz94_3⟩ := fz4 BK226.out))
            have n0_ : Aside0 (Kd.R Kd.string 9 ((((w91.setCell ⟨gb226,0,none⟩ (.int .i64 ((rd_T39 l0_2 x5_2).f0))).setCell ⟨gb226,1,none⟩ (.int .i64 ((rd_T39 l0_2 x5_2).f1))).setCell ⟨gb226,2,none⟩ (.int .i64 ((rd_T39 l0_2 x5_2).f2))).setCell ⟨gb226,3,none⟩ (.string ((rd_T39 l0_2 x5_2).f3))) w.heap.size (fun _ => True) u4 x4_2) := ⟨by (with_reducible repeat (first | apply Kd.R_alloc | apply Kd.R_drewN | apply Kd.R_drew)); exact Kd.R_mono (Kd.R_far (p:=⟨gb226,3,none⟩) (Kd.R_far (p:=⟨gb226,2,none⟩) (Kd.R_far (p:=⟨gb226,1,none⟩) (Kd.R_far (p:=⟨gb226,0,none⟩) (Kd.R_types HO_4.out BK226.out (by decide)) (fun _ hk => hk.2) (.int .i64 ((rd_T39 l0_2 x5_2).f0))) (fun _ hk => hk.2) (.int .i64 ((rd_T39 l0_2 x5_2).f1))) (fun _ hk => hk.2) (.int .i64 ((rd_T39 l0_2 x5_2).f2))) (fun _ hk => hk.2) (.string ((rd_T39 l0_2 x5_2).f3))) (fun _ hk => trivial)⟩
            have n1_ : Aside0 (((((w91.setCell ⟨gb226,0,none⟩ (.int .i64 ((rd_T39 l0_2 x5_2).f0))).setCell ⟨gb226,1,none⟩ (.int .i64 ((rd_T39 l0_2 x5_2).f1))).setCell ⟨gb226,2,none⟩ (.int .i64 ((rd_T39 l0_2 x5_2).f2))).setCell ⟨gb226,3,none⟩ (.string ((rd_T39 l0_2 x5_2).f3))).heap[gb218]? = some (.cells #[.int .i64 a0_0,.int .i64 a0_1,.slice (some ad225) l0_2.length c0_2,.slice A0_3 l0_3.length c0_3,.int .i64 a0_4,.int .i64 a0_5,.int .i64 a0_6,.int .i64 a0_7,.int .i64 a0_8,.int .i64 a0_9] 32 (0,0))) := ⟨kF BK218.out⟩
            have n2_ : Aside0 (((((w91.setCell ⟨gb226,0,none⟩ (.int .i64 ((rd_T39 l0_2 x5_2).f0))).setCell ⟨gb226,1,none⟩ (.int .i64 ((rd_T39 l0_2 x5_2).f1))).setCell ⟨gb226,2,none⟩ (.int .i64 ((rd_T39 l0_2 x5_2).f2))).setCell ⟨gb226,3,none⟩ (.string ((rd_T39 l0_2 x5_2).f3))).heap[gb221]? = some (.cells #[.int .i64 x222000_2,.int .i64 x222001_2,.int .i64 x222002_2] 24 (0,0))) := ⟨kF BK221.out⟩
            have n3_ : Aside0 (((((w91.setCell ⟨gb226,0,none⟩ (.int .i64 ((rd_T39 l0_2 x5_2).f0))).setCell ⟨gb226,1,none⟩ (.int .i64 ((rd_T39 l0_2 x5_2).f1))).setCell ⟨gb226,2,none⟩ (.int .i64 ((rd_T39 l0_2 x5_2).f2))).setCell ⟨gb226,3,none⟩ (.string ((rd_T39 l0_2 x5_2).f3))).heap[gb226]? = some (.cells #[.int .i64 ((rd_T39 l0_2 x5_2).f0),.int .i64 ((rd_T39 l0_2 x5_2).f1),.int .i64 ((rd_T39 l0_2 x5_2).f2),.string ((rd_T39 l0_2 x5_2).f3)] 39 (0,0))) := ⟨by (with_reducible repeat (first | refine blk_drewN ?_ _ | refine blk_drew ?_ | refine blk_alloc ?_ _)); refine blk_put (cs := #[.int .i64 ((rd_T39 l0_2 x5_2).f0),.int .i64 ((rd_T39 l0_2 x5_2).f1),.int .i64 ((rd_T39 l0_2 x5_2).f2),.string (⟨#[]⟩ : ByteArray)]) ?_ 3 _ rfl; (with_reducible repeat (first | refine blk_drewN ?_ _ | refine blk_drew ?_ | refine blk_alloc ?_ _)); refine blk_put (cs := #[.int .i64 ((rd_T39 l0_2 x5_2).f0),.int .i64 ((rd_T39 l0_2 x5_2).f1),.int .i64 0,.string (⟨#[]⟩ : ByteArray)]) ?_ 2 _ rfl; (with_reducible repeat (first | refine blk_drewN ?_ _ | refine blk_drew ?_ | refine blk_alloc ?_ _)); refine blk_put (cs := #[.int .i64 ((rd_T39 l0_2 x5_2).f0),.int .i64 0,.int .i64 0,.string (⟨#[]⟩ : ByteArray)]) ?_ 1 _ rfl; (with_reducible repeat (first | refine blk_drewN ?_ _ | refine blk_drew ?_ | refine blk_alloc ?_ _)); refine blk_put (cs := #[.int .i64 0,.int .i64 0,.int .i64 0,.string (⟨#[]⟩ : ByteArray)]) ?_ 0 _ rfl; (with_reducible repeat (first | refine blk_drewN ?_ _ | refine blk_drew ?_ | refine blk_alloc ?_ _)); exact BK226.out⟩
            have n4_ : Aside0 (Below w.heap.size w ((((w91.setCell ⟨gb226,0,none⟩ (.int .i64 ((rd_T39 l0_2 x5_2).f0))).setCell ⟨gb226,1,none⟩ (.int .i64 ((rd_T39 l0_2 x5_2).f1))).setCell ⟨gb226,2,none⟩ (.int .i64 ((rd_T39 l0_2 x5_2).f2))).setCell ⟨gb226,3,none⟩ (.string ((rd_T39 l0_2 x5_2).f3)))) := ⟨bA⟩
            (try clear HO_4)
            (try clear BK218)
            (try clear BK221)
            (try clear BK226)
            (try clear HB)
            generalize ((((w91.setCell ⟨gb226,0,none⟩ (.int .i64 ((rd_T39 l0_2 x5_2).f0))).setCell ⟨gb226,1,none⟩ (.int .i64 ((rd_T39 l0_2 x5_2).f1))).setCell ⟨gb226,2,none⟩ (.int .i64 ((rd_T39 l0_2 x5_2).f2))).setCell ⟨gb226,3,none⟩ (.string ((rd_T39 l0_2 x5_2).f3))) = w95 at n0_ n1_ n2_ n3_ n4_ ⊢
            have HO_4 := n0_
            have BK218 := n1_
            have BK221 := n2_
            have BK226 := n3_
            have HB := n4_
            clear n0_ n1_ n2_ n3_ n4_
            have n0_ := Aside0.mk (Kd.R_drew HO_4.out)
            have n1_ := Aside0.mk (blk_drew BK218.out)
            have n2_ := Aside0.mk (blk_drew BK221.out)
            have n3_ := Aside0.mk (blk_drew BK226.out)
            have n4_ := Aside0.mk (below_drew1 HB.out)
            clear HO_4
            clear BK218
            clear BK221
            clear BK226
            clear HB
            have HO_4 := n0_
            have BK218 := n1_
            have BK221 := n2_
            have BK226 := n3_
            have HB := n4_
            clear n0_ n1_ n2_ n3_ n4_
            refine start_ (n:=26) (S:=fun w' => w'.cell? ⟨gb226,0,none⟩ = some (.int .i64 ((rd_T39 l0_2 x5_2).f0)) ∧ w'.cell? ⟨gb226,1,none⟩ = some (.int .i64 ((rd_T39 l0_2 x5_2).f1)) ∧ w'.cell? ⟨gb226,2,none⟩ = some (.int .i64 ((rd_T39 l0_2 x5_2).f2)) ∧ w'.cell? ⟨gb226,3,none⟩ = some (.string ((rd_T39 l0_2 x5_2).f3)) ∧ w'.cell? ⟨gb221,0,none⟩ = some (.int .i64 x222000_2) ∧ w'.cell? ⟨gb221,1,none⟩ = some (.int .i64 x222001_2) ∧ w'.cell? ⟨gb221,2,none⟩ = some (.int .i64 x222002_2) ∧ w'.cell? ⟨gb221,((rd_T39 l0_2 x5_2).f0).toNat,none⟩ = some (.int .i64 (at3 ((rd_T39 l0_2 x5_2).f0) x222000_2 x222001_2 x222002_2))) (ds := []) (bm 26 0) (by kernel_rfl) rfl rfl ⟨(blk_cell BK226.out 0).trans rfl,(blk_cell BK226.out 1).trans rfl,(blk_cell BK226.out 2).trans rfl,(blk_cell BK226.out 3).trans rfl,(blk_cell BK221.out 0).trans rfl,(blk_cell BK221.out 1).trans rfl,(blk_cell BK221.out 2).trans rfl,at3_cell0 (od) (od) ((blk_cell BK221.out 0).trans rfl) ((blk_cell BK221.out 1).trans rfl) ((blk_cell BK221.out 2).trans rfl)⟩ (fun hHeld => ?_); refine with_tabW spec_StateOK.tab9 spec_StateOK.bits9 (fun HT_ HW_ => ?_)
            generalize w95.drew = w96 at HO_4 BK218 BK221 BK226 HB hHeld ⊢
            refine pV_ 0 48 (bm 26 1) HT_.out ?_
            refine pV_ 2 50 (bm 26 5) HT_.out ?_
            refine pV_ 4 52 (bm 26 21) HT_.out ?_
            refine pV_ 6 54 (bm 26 85) HT_.out ?_
            refine take_ (i:=1) (N:=some 49) (v:=?_) (a':=?_) (bm 26 87) rfl rfl (take_ofW HT_.out HW_.out (by kernel_rfl)) (fun _ _ _ h => h) (Or.inl ⟨by rfl,?_⟩) hHeld ?_ ?_
            rotate_left
            ·rintro w' ⟨s0,s1,s2,s3,s4,s5,s6,s7⟩
             go_simp
             with_reducible rfl
            rotate_left
            ·simp only [Act.put,setIfInBounds_toArray,set_cons_zero,set_cons_succ,i64_w,i32_w]
             rfl
            refine take_ (i:=3) (N:=some 51) (v:=?_) (a':=?_) (bm 26 95) rfl rfl (take_ofW HT_.out HW_.out (by kernel_rfl)) (fun _ _ _ h => h) (Or.inl ⟨by rfl,?_⟩) hHeld ?_ ?_
            rotate_left
            ·rintro w' ⟨s0,s1,s2,s3,s4,s5,s6,s7⟩
             go_simp
             with_reducible rfl
            rotate_left
            ·simp only [Act.put,setIfInBounds_toArray,set_cons_zero,set_cons_succ,i64_w,i32_w]
             rfl
            refine take_ (i:=5) (N:=some 53) (v:=?_) (a':=?_) (bm 26 127) rfl rfl (take_ofW HT_.out HW_.out (by kernel_rfl)) (fun _ _ _ h => h) (Or.inl ⟨by rfl,?_⟩) hHeld ?_ ?_
            rotate_left
            ·rintro w' ⟨s0,s1,s2,s3,s4,s5,s6,s7⟩
             go_simp
             with_reducible rfl
            rotate_left
            ·simp only [Act.put,setIfInBounds_toArray,set_cons_zero,set_cons_succ,i64_w,i32_w]
             rfl
            refine take_ (i:=7) (N:=some 55) (v:=?_) (a':=?_) (bm 26 255) rfl rfl (take_ofW HT_.out HW_.out (by kernel_rfl)) (fun _ _ _ h => h) (Or.inl ⟨by rfl,?_⟩) hHeld ?_ ?_
            rotate_left
            ·rintro w' ⟨s0,s1,s2,s3,s4,s5,s6,s7⟩
             go_simp
             with_reducible rfl
            rotate_left
            ·simp only [Act.put,setIfInBounds_toArray,set_cons_zero,set_cons_succ,i64_w,i32_w]
             rfl
            refine pV_ 8 56 (bm 26 511) HT_.out ?_
            refine one_ (i:=9) (N:=some 57) (bm 26 1023) rfl rfl (one_of HT_.out (by kernel_rfl)) (by decide) (fun K hK => ?_)
            refine goes_ Tryd.func19 (by kernel_rfl) rfl #[.agg #[.int .i64 0,.int .i64 0,.int .i64 ((rd_T39 l0_2 x5_2).f0),.int .i64 ((rd_T39 l0_2 x5_2).f1),.int .i64 ((rd_T39 l0_2 x5_2).f2),.string ((rd_T39 l0_2 x5_2).f3)],.int .i64 0] (by rfl) rfl rfl mA ?_
            with_reducible refine (spec_l06Tiered.calls k2 0 0 ((rd_T39 l0_2 x5_2).f0) ((rd_T39 l0_2 x5_2).f1) ((rd_T39 l0_2 x5_2).f2) ((rd_T39 l0_2 x5_2).f3) 0 true _ A20.out).mono ?_
            rintro e w97 ⟨rfl,hb⟩
            refine ⟨_,rfl,?_⟩
            have n0_ := Aside0.mk (Kd.R_below (rA HO_4.out) hb)
            have n1_ := Aside0.mk (blk_below (g:=gb218) (o:=.cells #[.int .i64 a0_0,.int .i64 a0_1,.slice (some ad225) l0_2.length c0_2,.slice A0_3 l0_3.length c0_3,.int .i64 a0_4,.int .i64 a0_5,.int .i64 a0_6,.int .i64 a0_7,.int .i64 a0_8,.int .i64 a0_9] 32 (0,0)) (kA BK218.out) hb)
            have n2_ := Aside0.mk (blk_below (g:=gb221) (o:=.cells #[.int .i64 x222000_2,.int .i64 x222001_2,.int .i64 x222002_2] 24 (0,0)) (kA BK221.out) hb)
            have n3_ := Aside0.mk (blk_below (g:=gb226) (o:=.cells #[.int .i64 ((rd_T39 l0_2 x5_2).f0),.int .i64 ((rd_T39 l0_2 x5_2).f1),.int .i64 ((rd_T39 l0_2 x5_2).f2),.string ((rd_T39 l0_2 x5_2).f3)] 39 (0,0)) (kA BK226.out) hb)
            have n4_ := Aside0.mk (below_step bA hb)
            clear HO_4
            clear BK218
            clear BK221
            clear BK226
            clear HB
            have HO_4 := n0_
            have BK218 := n1_
            have BK221 := n2_
            have BK226 := n3_
            have HB := n4_
            clear n0_ n1_ n2_ n3_ n4_
            (try clear hb)
            (try clear hb2)
            (try clear hk)
            (try clear hi)
            have hia98 := ia_dyn0 (P:=Tryd.prog) (t:=24) (e:=3) Tryd.underlying24 (by kernel_rfl) (by kernel_rfl) gb221 ((rd_T39 l0_2 x5_2).f0) (od) (od)
            refine hK.out _ _ ⟨(blk_cell BK226.out 0).trans rfl,(blk_cell BK226.out 1).trans rfl,(blk_cell BK226.out 2).trans rfl,(blk_cell BK226.out 3).trans rfl,(blk_cell BK221.out 0).trans rfl,(blk_cell BK221.out 1).trans rfl,(blk_cell BK221.out 2).trans rfl,at3_cell0 (od) (od) ((blk_cell BK221.out 0).trans rfl) ((blk_cell BK221.out 1).trans rfl) ((blk_cell BK221.out 2).trans rfl)⟩ (fun hHeld => ?_)
            clear hK K
            refine norm_ (a':=?_) ?_ ?_
            rotate_left
            ·show Act.put _ (some 57) _ = _
             simp only [Act.put,setIfInBounds_toArray,set_cons_zero,set_cons_succ,i64_w,i32_w]
             rfl
            refine pV_ 10 58 (bm 26 2047) HT_.out ?_
            refine pV_ 11 59 (bm 26 4095) HT_.out ?_
            refine pV_ 12 60 (bm 26 8191) HT_.out ?_
            refine pV_ 14 62 (bm 26 24575) HT_.out ?_
            refine take_ (i:=13) (N:=some 61) (v:=?_) (a':=?_) (bm 26 32767) rfl rfl (take_ofW HT_.out HW_.out (by kernel_rfl)) (fun _ _ _ h => h) (Or.inl ⟨by rfl,?_⟩) hHeld ?_ ?_
            rotate_left
            ·rintro w' ⟨s0,s1,s2,s3,s4,s5,s6,s7⟩
             go_simp
             with_reducible rfl
            rotate_left
            ·simp only [Act.put,setIfInBounds_toArray,set_cons_zero,set_cons_succ,i64_w,i32_w]
             rfl
            refine take_ (i:=15) (N:=some 63) (v:=?_) (a':=?_) (bm 26 65535) rfl rfl (take_ofW HT_.out HW_.out (by kernel_rfl)) (fun _ _ _ h => h) (Or.inl ⟨by rfl,?_⟩) hHeld ?_ ?_
            rotate_left
            ·rintro w' ⟨s0,s1,s2,s3,s4,s5,s6,s7⟩
             go_simp
             with_reducible rfl
            rotate_left
            ·simp only [Act.put,setIfInBounds_toArray,set_cons_zero,set_cons_succ,i64_w,i32_w]
             rfl
            refine pV_ 16 64 (bm 26 131071) HT_.out ?_
            refine take_ (i:=17) (N:=some 65) (v:=?_) (a':=?_) (bm 26 262143) rfl rfl (take_ofW HT_.out HW_.out (by kernel_rfl)) (fun _ _ _ h => h) (Or.inl ⟨by rfl,?_⟩) hHeld ?_ ?_
            rotate_left
            ·rintro w' ⟨s0,s1,s2,s3,s4,s5,s6,s7⟩
             go_simp
             with_reducible rfl
            rotate_left
            ·simp only [Act.put,setIfInBounds_toArray,set_cons_zero,set_cons_succ,i64_w,i32_w]
             rfl
            refine pV_ 18 66 (bm 26 524287) HT_.out ?_
            refine pV_ 19 67 (bm 26 1048575) HT_.out ?_
            refine pV_ 20 68 (bm 26 2097151) HT_.out ?_
            refine pU_ 21 69 (bm 26 4194303) HT_.out ?_
            refine pU_ 22 70 (bm 26 8388607) HT_.out ?_
            refine pU_ 23 71 (bm 26 16777215) HT_.out ?_
            refine pU_ 24 72 (bm 26 33554431) HT_.out ?_
            refine pV_ 25 73 (bm 26 67108863) HT_.out ?_
            refine done_ (done_of HT_.out (by kernel_rfl)) ?_
            try go_wp2
            go_ret
            exact ⟨by first | rfl | (simp only [i64_w,i32_w] <;> rfl) | (simp [errW_none,errW_some] <;> rfl) | (simp [*,errW_none,errW_some] <;> rfl),bA⟩
          ·rw [if_neg c23] at H
           exact absurd H (by simp)
         ·rw [if_neg c22] at H
          exact absurd H (by simp)
        ·replace c21 := Bool.eq_false_iff.mpr c21
         subst c21
         rw [if_neg (show ¬ (false = true) by decide)] at H
         obtain rfl := Option.some.inj H
         have hnb99 := NB218_221.out
         have hnc99 := NB221_218.out
         obtain ⟨hcz100_0,hcz100_1,hcz100_2,hcz100_3,hcz100_4,hcz100_5,hcz100_6,hcz100_7,hcz100_8,hcz100_9⟩ := cl10 BK218.out
         obtain ⟨hfz100_0,hfz100_1,hfz100_2,hfz100_3,hfz100_4,hfz100_5,hfz100_6,hfz100_7,hfz100_8,hfz100_9⟩ := fz10 BK218.out
         have p225 : 0 ≤ (x5_2 : Int) := od
         have q225 : x5_2 < (l0_2.length : Int) := od
         obtain ⟨ad225,e225,hx225_0,hx225_1,hx225_2,hx225_3⟩ := at_T39 HR0_2.out x5_2 p225 q225
         cases e225
         replace hx225_0 := cb HB.out hx225_0
         replace hx225_1 := cb HB.out hx225_1
         replace hx225_2 := cb HB.out hx225_2
         replace hx225_3 := cb HB.out hx225_3
         replace p225 := eq_true p225
         replace q225 := eq_true q225
         try go_wp2_with (first | ((with_reducible refine gate_dst (N:=6) rfl ?_); (try (refine gate_guard (by rfl) ?_; dsimp only)); refine box_event ?hg (N:=6) ?hd (cs := #[.int .i64 0,.int .i64 0,.int .i64 0,.string (⟨#[]⟩ : ByteArray)]) (t:=39) ?hr ?_; (case hd => rfl); (case hg => rfl); (case hr => first | (go_simp; done) | (go_simp; rfl)); intro gb226 hg w101 hbox hb; have n0_ := Aside0.mk (Kd.R_below (rA HO_4.out) hb); have n1_ := Aside0.mk (blk_below (g:=gb218) (o:=.cells #[.int .i64 a0_0,.int .i64 a0_1,.slice (some ad225) l0_2.length c0_2,.slice A0_3 l0_3.length c0_3,.int .i64 a0_4,.int .i64 a0_5,.int .i64 a0_6,.int .i64 a0_7,.int .i64 a0_8,.int .i64 a0_9] 32 (0,0)) (kA BK218.out) hb); have n2_ := Aside0.mk (blk_below (g:=gb221) (o:=.cells #[.int .i64 x222000_2,.int .i64 x222001_2,.int .i64 x222002_2] 24 (0,0)) (kA BK221.out) hb); have n3_ := Aside0.mk (below_step bA hb); have n4_ := Aside0.mk (hbox); have n5_ := Aside0.mk ((gw hg : w.heap.size ≤ gb226)); have n6_ := Aside0.mk ((gw hg : w.heap.size ≤ gb226)); have n7_ := Aside0.mk ((by rw [hg]; exact Nat.ne_of_lt (blk_lt (g:=gb218) (o:=.cells #[.int .i64 a0_0,.int .i64 a0_1,.slice (some ad225) l0_2.length c0_2,.slice A0_3 l0_3.length c0_3,.int .i64 a0_4,.int .i64 a0_5,.int .i64 a0_6,.int .i64 a0_7,.int .i64 a0_8,.int .i64 a0_9] 32 (0,0)) (kA BK218.out)) : gb218 ≠ gb226)); have n8_ := Aside0.mk ((by rw [hg]; exact Nat.ne_of_gt (blk_lt (g:=gb218) (o:=.cells #[.int .i64 a0_0,.int .i64 a0_1,.slice (some ad225) l0_2.length c0_2,.slice A0_3 l0_3.length c0_3,.int .i64 a0_4,.int .i64 a0_5,.int .i64 a0_6,.int .i64 a0_7,.int .i64 a0_8,.int .i64 a0_9] 32 (0,0)) (kA BK218.out)) : gb226 ≠ gb218)); have n9_ := Aside0.mk ((by rw [hg]; exact Nat.ne_of_lt (blk_lt (g:=gb221) (o:=.cells #[.int .i64 x222000_2,.int .i64 x222001_2,.int .i64 x222002_2] 24 (0,0)) (kA BK221.out)) : gb221 ≠ gb226)); have n10_ := Aside0.mk ((by rw [hg]; exact Nat.ne_of_gt (blk_lt (g:=gb221) (o:=.cells #[.int .i64 x222000_2,.int .i64 x222001_2,.int .i64 x222002_2] 24 (0,0)) (kA BK221.out)) : gb226 ≠ gb221)); clear HO_4; clear BK218; clear BK221; clear HB; have HO_4 := n0_; have BK218 := n1_; have BK221 := n2_; have HB := n3_; have BK226 := n4_; have GW226 := n5_; have GE226 := n6_; have NB218_226 := n7_; have NB226_218 := n8_; have NB221_226 := n9_; have NB226_221 := n10_; clear n0_ n1_ n2_ n3_ n4_ n5_ n6_ n7_ n8_ n9_ n10_; clear hb hbox hg; have hnb102 := NB226_218.out; have hnc102 := NB218_226.out; have hnb103 := NB226_221.out; have hnc103 := NB221_226.out; obtain ⟨hcz104_0,hcz104_1,hcz104_2,hcz104_3⟩ := cl4 BK226.out; obtain ⟨hfz104_0,hfz104_1,hfz104_2,hfz104_3⟩ := fz4 BK226.out))
         have n0_ : Aside0 (Kd.R Kd.string 9 ((((w101.setCell ⟨gb226,0,none⟩ (.int .i64 ((rd_T39 l0_2 x5_2).f0))).setCell ⟨gb226,1,none⟩ (.int .i64 ((rd_T39 l0_2 x5_2).f1))).setCell ⟨gb226,2,none⟩ (.int .i64 ((rd_T39 l0_2 x5_2).f2))).setCell ⟨gb226,3,none⟩ (.string ((rd_T39 l0_2 x5_2).f3))) w.heap.size (fun _ => True) u4 x4_2) := ⟨by (with_reducible repeat (first | apply Kd.R_alloc | apply Kd.R_drewN | apply Kd.R_drew)); exact Kd.R_mono (Kd.R_far (p:=⟨gb226,3,none⟩) (Kd.R_far (p:=⟨gb226,2,none⟩) (Kd.R_far (p:=⟨gb226,1,none⟩) (Kd.R_far (p:=⟨gb226,0,none⟩) (Kd.R_types HO_4.out BK226.out (by decide)) (fun _ hk => hk.2) (.int .i64 ((rd_T39 l0_2 x5_2).f0))) (fun _ hk => hk.2) (.int .i64 ((rd_T39 l0_2 x5_2).f1))) (fun _ hk => hk.2) (.int .i64 ((rd_T39 l0_2 x5_2).f2))) (fun _ hk => hk.2) (.string ((rd_T39 l0_2 x5_2).f3))) (fun _ hk => trivial)⟩
         have n1_ : Aside0 (((((w101.setCell ⟨gb226,0,none⟩ (.int .i64 ((rd_T39 l0_2 x5_2).f0))).setCell ⟨gb226,1,none⟩ (.int .i64 ((rd_T39 l0_2 x5_2).f1))).setCell ⟨gb226,2,none⟩ (.int .i64 ((rd_T39 l0_2 x5_2).f2))).setCell ⟨gb226,3,none⟩ (.string ((rd_T39 l0_2 x5_2).f3))).heap[gb218]? = some (.cells #[.int .i64 a0_0,.int .i64 a0_1,.slice (some ad225) l0_2.length c0_2,.slice A0_3 l0_3.length c0_3,.int .i64 a0_4,.int .i64 a0_5,.int .i64 a0_6,.int .i64 a0_7,.int .i64 a0_8,.int .i64 a0_9] 32 (0,0))) := ⟨kF BK218.out⟩
         have n2_ : Aside0 (((((w101.setCell ⟨gb226,0,none⟩ (.int .i64 ((rd_T39 l0_2 x5_2).f0))).setCell ⟨gb226,1,none⟩ (.int .i64 ((rd_T39 l0_2 x5_2).f1))).setCell ⟨gb226,2,none⟩ (.int .i64 ((rd_T39 l0_2 x5_2).f2))).setCell ⟨gb226,3,none⟩ (.string ((rd_T39 l0_2 x5_2).f3))).heap[gb221]? = some (.cells #[.int .i64 x222000_2,.int .i64 x222001_2,.int .i64 x222002_2] 24 (0,0))) := ⟨kF BK221.out⟩
         have n3_ : Aside0 (((((w101.setCell ⟨gb226,0,none⟩ (.int .i64 ((rd_T39 l0_2 x5_2).f0))).setCell ⟨gb226,1,none⟩ (.int .i64 ((rd_T39 l0_2 x5_2).f1))).setCell ⟨gb226,2,none⟩ (.int .i64 ((rd_T39 l0_2 x5_2).f2))).setCell ⟨gb226,3,none⟩ (.string ((rd_T39 l0_2 x5_2).f3))).heap[gb226]? = some (.cells #[.int .i64 ((rd_T39 l0_2 x5_2).f0),.int .i64 ((rd_T39 l0_2 x5_2).f1),.int .i64 ((rd_T39 l0_2 x5_2).f2),.string ((rd_T39 l0_2 x5_2).f3)] 39 (0,0))) := ⟨by (with_reducible repeat (first | refine blk_drewN ?_ _ | refine blk_drew ?_ | refine blk_alloc ?_ _)); refine blk_put (cs := #[.int .i64 ((rd_T39 l0_2 x5_2).f0),.int .i64 ((rd_T39 l0_2 x5_2).f1),.int .i64 ((rd_T39 l0_2 x5_2).f2),.string (⟨#[]⟩ : ByteArray)]) ?_ 3 _ rfl; (with_reducible repeat (first | refine blk_drewN ?_ _ | refine blk_drew ?_ | refine blk_alloc ?_ _)); refine blk_put (cs := #[.int .i64 ((rd_T39 l0_2 x5_2).f0),.int .i64 ((rd_T39 l0_2 x5_2).f1),.int .i64 0,.string (⟨#[]⟩ : ByteArray)]) ?_ 2 _ rfl; (with_reducible repeat (first | refine blk_drewN ?_ _ | refine blk_drew ?_ | refine blk_alloc ?_ _)); refine blk_put (cs := #[.int .i64 ((rd_T39 l0_2 x5_2).f0),.int .i64 0,.int .i64 0,.string (⟨#[]⟩ : ByteArray)]) ?_ 1 _ rfl; (with_reducible repeat (first | refine blk_drewN ?_ _ | refine blk_drew ?_ | refine blk_alloc ?_ _)); refine blk_put (cs := #[.int .i64 0,.int .i64 0,.int .i64 0,.string (⟨#[]⟩ : ByteArray)]) ?_ 0 _ rfl; (with_reducible repeat (first | refine blk_drewN ?_ _ | refine blk_drew ?_ | refine blk_alloc ?_ _)); exact BK226.out⟩
         have n4_ : Aside0 (Below w.heap.size w ((((w101.setCell ⟨gb226,0,none⟩ (.int .i64 ((rd_T39 l0_2 x5_2).f0))).setCell ⟨gb226,1,none⟩ (.int .i64 ((rd_T39 l0_2 x5_2).f1))).setCell ⟨gb226,2,none⟩ (.int .i64 ((rd_T39 l0_2 x5_2).f2))).setCell ⟨gb226,3,none⟩ (.string ((rd_T39 l0_2 x5_2).f3)))) := ⟨bA⟩
         (try clear HO_4)
         (try clear BK218)
         (try clear BK221)
         (try clear BK226)
         (try clear HB)
         generalize ((((w101.setCell ⟨gb226,0,none⟩ (.int .i64 ((rd_T39 l0_2 x5_2).f0))).setCell ⟨gb226,1,none⟩ (.int .i64 ((rd_T39 l0_2 x5_2).f1))).setCell ⟨gb226,2,none⟩ (.int .i64 ((rd_T39 l0_2 x5_2).f2))).setCell ⟨gb226,3,none⟩ (.string ((rd_T39 l0_2 x5_2).f3))) = w105 at n0_ n1_ n2_ n3_ n4_ ⊢
         have HO_4 := n0_
         have BK218 := n1_
         have BK221 := n2_
         have BK226 := n3_
         have HB := n4_
         clear n0_ n1_ n2_ n3_ n4_
         have n0_ := Aside0.mk (Kd.R_drew HO_4.out)
         have n1_ := Aside0.mk (blk_drew BK218.out)
         have n2_ := Aside0.mk (blk_drew BK221.out)
         have n3_ := Aside0.mk (blk_drew BK226.out)
         have n4_ := Aside0.mk (below_drew1 HB.out)
         clear HO_4
         clear BK218
         clear BK221
         clear BK226
         clear HB
         have HO_4 := n0_
         have BK218 := n1_
         have BK221 := n2_
         have BK226 := n3_
         have HB := n4_
         clear n0_ n1_ n2_ n3_ n4_
         refine start_ (n:=26) (S:=fun w' => w'.cell? ⟨gb226,0,none⟩ = some (.int .i64 ((rd_T39 l0_2 x5_2).f0)) ∧ w'.cell? ⟨gb226,1,none⟩ = some (.int .i64 ((rd_T39 l0_2 x5_2).f1)) ∧ w'.cell? ⟨gb226,2,none⟩ = some (.int .i64 ((rd_T39 l0_2 x5_2).f2)) ∧ w'.cell? ⟨gb226,3,none⟩ = some (.string ((rd_T39 l0_2 x5_2).f3))) (ds := []) (bm 26 0) (by kernel_rfl) rfl rfl ⟨(blk_cell BK226.out 0).trans rfl,(blk_cell BK226.out 1).trans rfl,(blk_cell BK226.out 2).trans rfl,(blk_cell BK226.out 3).trans rfl⟩ (fun hHeld => ?_); refine with_tabW spec_StateOK.tab9 spec_StateOK.bits9 (fun HT_ HW_ => ?_)
         generalize w105.drew = w106 at HO_4 BK218 BK221 BK226 HB hHeld ⊢
         refine pV_ 0 48 (bm 26 1) HT_.out ?_
         refine pV_ 2 50 (bm 26 5) HT_.out ?_
         refine pV_ 4 52 (bm 26 21) HT_.out ?_
         refine pV_ 6 54 (bm 26 85) HT_.out ?_
         refine take_ (i:=1) (N:=some 49) (v:=?_) (a':=?_) (bm 26 87) rfl rfl (take_ofW HT_.out HW_.out (by kernel_rfl)) (fun _ _ _ h => h) (Or.inl ⟨by rfl,?_⟩) hHeld ?_ ?_
         rotate_left
         ·rintro w' ⟨s0,s1,s2,s3⟩
          go_simp
          with_reducible rfl
         rotate_left
         ·simp only [Act.put,setIfInBounds_toArray,set_cons_zero,set_cons_succ,i64_w,i32_w]
          rfl
         refine take_ (i:=3) (N:=some 51) (v:=?_) (a':=?_) (bm 26 95) rfl rfl (take_ofW HT_.out HW_.out (by kernel_rfl)) (fun _ _ _ h => h) (Or.inl ⟨by rfl,?_⟩) hHeld ?_ ?_
         rotate_left
         ·rintro w' ⟨s0,s1,s2,s3⟩
          go_simp
          with_reducible rfl
         rotate_left
         ·simp only [Act.put,setIfInBounds_toArray,set_cons_zero,set_cons_succ,i64_w,i32_w]
          rfl
         refine take_ (i:=5) (N:=some 53) (v:=?_) (a':=?_) (bm 26 127) rfl rfl (take_ofW HT_.out HW_.out (by kernel_rfl)) (fun _ _ _ h => h) (Or.inl ⟨by rfl,?_⟩) hHeld ?_ ?_
         rotate_left
         ·rintro w' ⟨s0,s1,s2,s3⟩
          go_simp
          with_reducible rfl
         rotate_left
         ·simp only [Act.put,setIfInBounds_toArray,set_cons_zero,set_cons_succ,i64_w,i32_w]
          rfl
         refine take_ (i:=7) (N:=some 55) (v:=?_) (a':=?_) (bm 26 255) rfl rfl (take_ofW HT_.out HW_.out (by kernel_rfl)) (fun _ _ _ h => h) (Or.inl ⟨by rfl,?_⟩) hHeld ?_ ?_
         rotate_left
         ·rintro w' ⟨s0,s1,s2,s3⟩
          go_simp
          with_reducible rfl
         rotate_left
         ·simp only [Act.put,setIfInBounds_toArray,set_cons_zero,set_cons_succ,i64_w,i32_w]
          rfl
         refine pV_ 8 56 (bm 26 511) HT_.out ?_
         refine one_ (i:=9) (N:=some 57) (bm 26 1023) rfl rfl (one_of HT_.out (by kernel_rfl)) (by decide) (fun K hK => ?_)
         refine goes_ Tryd.func19 (by kernel_rfl) rfl #[.agg #[.int .i64 0,.int .i64 0,.int .i64 ((rd_T39 l0_2 x5_2).f0),.int .i64 ((rd_T39 l0_2 x5_2).f1),.int .i64 ((rd_T39 l0_2 x5_2).f2),.string ((rd_T39 l0_2 x5_2).f3)],.int .i64 0] (by rfl) rfl rfl mA ?_
         with_reducible refine (spec_l06Tiered.calls k2 0 0 ((rd_T39 l0_2 x5_2).f0) ((rd_T39 l0_2 x5_2).f1) ((rd_T39 l0_2 x5_2).f2) ((rd_T39 l0_2 x5_2).f3) 0 false _ A20.out).mono ?_
         rintro e w107 ⟨rfl,hb⟩
         refine ⟨_,rfl,?_⟩
         have n0_ := Aside0.mk (Kd.R_below (rA HO_4.out) hb)
         have n1_ := Aside0.mk (blk_below (g:=gb218) (o:=.cells #[.int .i64 a0_0,.int .i64 a0_1,.slice (some ad225) l0_2.length c0_2,.slice A0_3 l0_3.length c0_3,.int .i64 a0_4,.int .i64 a0_5,.int .i64 a0_6,.int .i64 a0_7,.int .i64 a0_8,.int .i64 a0_9] 32 (0,0)) (kA BK218.out) hb)
         have n2_ := Aside0.mk (blk_below (g:=gb221) (o:=.cells #[.int .i64 x222000_2,.int .i64 x222001_2,.int .i64 x222002_2] 24 (0,0)) (kA BK221.out) hb)
         have n3_ := Aside0.mk (blk_below (g:=gb226) (o:=.cells #[.int .i64 ((rd_T39 l0_2 x5_2).f0),.int .i64 ((rd_T39 l0_2 x5_2).f1),.int .i64 ((rd_T39 l0_2 x5_2).f2),.string ((rd_T39 l0_2 x5_2).f3)] 39 (0,0)) (kA BK226.out) hb)
         have n4_ := Aside0.mk (below_step bA hb)
         clear HO_4
         clear BK218
         clear BK221
         clear BK226
         clear HB
         have HO_4 := n0_
         have BK218 := n1_
         have BK221 := n2_
         have BK226 := n3_
         have HB := n4_
         clear n0_ n1_ n2_ n3_ n4_
         (try clear hb)
         (try clear hb2)
         (try clear hk)
         (try clear hi)
         refine hK.out _ _ ⟨(blk_cell BK226.out 0).trans rfl,(blk_cell BK226.out 1).trans rfl,(blk_cell BK226.out 2).trans rfl,(blk_cell BK226.out 3).trans rfl⟩ (fun hHeld => ?_)
         clear hK K
         refine norm_ (a':=?_) ?_ ?_
         rotate_left
         ·show Act.put _ (some 57) _ = _
          simp only [Act.put,setIfInBounds_toArray,set_cons_zero,set_cons_succ,i64_w,i32_w]
          rfl
         refine pV_ 10 58 (bm 26 2047) HT_.out ?_
         refine pV_ 11 59 (bm 26 4095) HT_.out ?_
         refine pU_ 12 60 (bm 26 8191) HT_.out ?_
         refine pU_ 13 61 (bm 26 16383) HT_.out ?_
         refine pU_ 14 62 (bm 26 32767) HT_.out ?_
         refine pU_ 15 63 (bm 26 65535) HT_.out ?_
         refine pU_ 16 64 (bm 26 131071) HT_.out ?_
         refine pU_ 17 65 (bm 26 262143) HT_.out ?_
         refine pU_ 18 66 (bm 26 524287) HT_.out ?_
         refine pV_ 19 67 (bm 26 1048575) HT_.out ?_
         refine pV_ 20 68 (bm 26 2097151) HT_.out ?_
         refine pU_ 21 69 (bm 26 4194303) HT_.out ?_
         refine pU_ 22 70 (bm 26 8388607) HT_.out ?_
         refine pU_ 23 71 (bm 26 16777215) HT_.out ?_
         refine pU_ 24 72 (bm 26 33554431) HT_.out ?_
         refine pV_ 25 73 (bm 26 67108863) HT_.out ?_
         refine done_ (done_of HT_.out (by kernel_rfl)) ?_
         try go_wp2
         go_ret
         exact ⟨by first | rfl | (simp only [i64_w,i32_w] <;> rfl) | (simp [errW_none,errW_some] <;> rfl) | (simp [*,errW_none,errW_some] <;> rfl),bA⟩
       ·rw [if_neg c19] at H
        exact absurd H (by simp)
      ·rw [if_neg c18] at H
       have c18b0 : decide (x5_2 < (l0_2.length : Int)) = false := decide_eq_false c18
       clear c18
       have H' := Aside0.mk H
       clear H
       have hnb108 := NB218_221.out
       have hnc108 := NB221_218.out
       obtain ⟨hcz109_0,hcz109_1,hcz109_2,hcz109_3,hcz109_4,hcz109_5,hcz109_6,hcz109_7,hcz109_8,hcz109_9⟩ := cl10 BK218.out
       obtain ⟨hfz109_0,hfz109_1,hfz109_2,hfz109_3,hfz109_4,hfz109_5,hfz109_6,hfz109_7,hfz109_8,hfz109_9⟩ := fz10 BK218.out
       go_wp2
       go_loopg [4,7] k2 (fun kq v4 v7 w' => ∃ (x4_3 : List ByteArray) (x7_3 : Int),v7 = .int .i64 x7_3 ∧ Aside0 (spec_StateOK.l1 kq x4_3 x7_3 a0_0 a0_1 l0_2 l0_3 a0_4 a0_5 a0_6 a0_7 a0_8 a0_9 x222000_2 x222001_2 x222002_2 = some r) ∧ Aside0 (kq ≤ k2) ∧ Aside0 (Kd.R Kd.string 9 w' w.heap.size (fun _ => True) v4 x4_3) ∧ Aside0 (w'.heap[gb218]? = some (.cells #[.int .i64 a0_0,.int .i64 a0_1,(.slice A0_2 l0_2.length c0_2),(.slice A0_3 l0_3.length c0_3),.int .i64 a0_4,.int .i64 a0_5,.int .i64 a0_6,.int .i64 a0_7,.int .i64 a0_8,.int .i64 a0_9] 32 (0,0))) ∧ Aside0 (w'.heap[gb221]? = some (.cells #[.int .i64 x222000_2,.int .i64 x222001_2,.int .i64 x222002_2] 24 (0,0))) ∧ Aside0 (Below w.heap.size w w'))
       case atStart => exact ⟨(x4_2),(0),(by first | rfl | (simp; done) | (simp [*]; done)),H',⟨Nat.le_refl _⟩,⟨rA HO_4.out⟩,⟨kA BK218.out⟩,⟨kA BK221.out⟩,⟨bA⟩⟩
       case round =>
        clear H'
        try clear c1
        try clear c2
        try clear p2
        try clear q2
        try clear hx2
        try clear c7
        try clear c8
        try clear c9
        try clear c10
        try clear c18
        try clear c18b0
        try clear c19
        try clear c21
        try clear c22
        try clear p22
        try clear q22
        try clear hx22
        try clear c23
        try clear c24
        try clear c24b0
        try clear c24b1
        try clear c72
        try clear c89
        try clear c92
        try clear c93
        try clear c99
        try clear c102
        try clear c103
        try clear c108
        try clear hcz100_0
        try clear hcz100_1
        try clear hcz100_2
        try clear hcz100_3
        try clear hcz100_4
        try clear hcz100_5
        try clear hcz100_6
        try clear hcz100_7
        try clear hcz100_8
        try clear hcz100_9
        try clear hcz104_0
        try clear hcz104_1
        try clear hcz104_2
        try clear hcz104_3
        try clear hcz109_0
        try clear hcz109_1
        try clear hcz109_2
        try clear hcz109_3
        try clear hcz109_4
        try clear hcz109_5
        try clear hcz109_6
        try clear hcz109_7
        try clear hcz109_8
        try clear hcz109_9
        try clear hcz90_0
        try clear hcz90_1
        try clear hcz90_2
        try clear hcz90_3
        try clear hcz90_4
        try clear hcz90_5
        try clear hcz90_6
        try clear hcz90_7
        try clear hcz90_8
        try clear hcz90_9
        try clear hcz94_0
        try clear hcz94_1
        try clear hcz94_2
        try clear hcz94_3
        try clear hfz100_0
        try clear hfz100_1
        try clear hfz100_2
        try clear hfz100_3
        try clear hfz100_4
        try clear hfz100_5
        try clear hfz100_6
        try clear hfz100_7
        try clear hfz100_8
        try clear hfz100_9
        try clear hfz104_0
        try clear hfz104_1
        try clear hfz104_2
        try clear hfz104_3
        try clear hfz109_0
        try clear hfz109_1
        try clear hfz109_2
        try clear hfz109_3
        try clear hfz109_4
        try clear hfz109_5
        try clear hfz109_6
        try clear hfz109_7
        try clear hfz109_8
        try clear hfz109_9
        try clear hfz90_0
        try clear hfz90_1
        try clear hfz90_2
        try clear hfz90_3
        try clear hfz90_4
        try clear hfz90_5
        try clear hfz90_6
        try clear hfz90_7
        try clear hfz90_8
        try clear hfz90_9
        try clear hfz94_0
        try clear hfz94_1
        try clear hfz94_2
        try clear hfz94_3
        try clear hx225_0
        try clear hx225_1
        try clear hx225_2
        try clear hx225_3
        try clear p225
        try clear q225
        obtain ⟨x4_3,x7_3,rfl,HA,HK3,HO_4,BK218,BK221,HB⟩ := hrel
        cases gk with
        | zero => exact absurd HA.out (by simp [spec_StateOK.l1])
        | succ k3 =>
         have H := HA.out
         clear HA
         simp only [spec_StateOK.l1] at H
         by_cases c110 : x7_3 < (l0_3.length : Int)
         ·rw [if_pos c110] at H
          have c110b0 : decide (x7_3 < (l0_3.length : Int)) = true := decide_eq_true c110
          clear c110
          by_cases c111 : 0 ≤ x7_3
          ·rw [if_pos c111] at H
           have c111b0 : decide (0 ≤ x7_3) = true := decide_eq_true c111
           clear c111
           replace H := Option.bind_eq_some_iff.mp H
           obtain ⟨⟨t239,t240,t241,t242⟩,A1120,H⟩ := H
           try dsimp only at H
           have A112 := Aside0.mk A1120
           clear A1120
           by_cases c113 : t242 = true
           ·subst c113
            rw [if_pos rfl] at H
            replace H := Option.bind_eq_some_iff.mp H
            obtain ⟨t244,A1140,H⟩ := H
            try dsimp only at H
            have A114 := Aside0.mk A1140
            clear A1140
            by_cases c115 : t244 = true
            ·subst c115
             rw [if_pos rfl] at H
             replace H := Option.bind_eq_some_iff.mp H
             obtain ⟨t246,A1160,H⟩ := H
             try dsimp only at H
             have A116 := Aside0.mk A1160
             clear A1160
             by_cases c117 : t246 = true
             ·subst c117
              rw [if_pos rfl] at H
              obtain rfl := Option.some.inj H
              have hnb118 := NB218_221.out
              have hnc118 := NB221_218.out
              obtain ⟨hcz119_0,hcz119_1,hcz119_2,hcz119_3,hcz119_4,hcz119_5,hcz119_6,hcz119_7,hcz119_8,hcz119_9⟩ := cl10 BK218.out
              obtain ⟨hfz119_0,hfz119_1,hfz119_2,hfz119_3,hfz119_4,hfz119_5,hfz119_6,hfz119_7,hfz119_8,hfz119_9⟩ := fz10 BK218.out
              have p238 : 0 ≤ (x7_3 : Int) := od
              have q238 : x7_3 < (l0_3.length : Int) := od
              obtain ⟨ad238,e238,hx238_0,hx238_1⟩ := at_T55 HR0_3.out x7_3 p238 q238
              cases e238
              replace hx238_0 := cb HB.out hx238_0
              replace hx238_1 := cb HB.out hx238_1
              replace p238 := eq_true p238
              replace q238 := eq_true q238
              try go_wp2_with (first | ((with_reducible refine gate_callee (f:=21) rfl ?_); refine goesL_ (some 98) rfl rfl Tryd.func21 (by kernel_rfl) rfl #[.string ((rd_T55 l0_3 x7_3).f1)] rfl mA ?_; (with_reducible refine (spec_l03ToKey.calls k3 ((rd_T55 l0_3 x7_3).f1) t239 t240 t241 true _ A112.out).mono ?_); rintro e w120 ⟨rfl,hb⟩; refine ⟨_,rfl,?_⟩; have n0_ := Aside0.mk (Kd.R_below (rA HO_4.out) hb); have n1_ := Aside0.mk (blk_below (g:=gb218) (o:=.cells #[.int .i64 a0_0,.int .i64 a0_1,.slice A0_2 l0_2.length c0_2,.slice (some ad238) l0_3.length c0_3,.int .i64 a0_4,.int .i64 a0_5,.int .i64 a0_6,.int .i64 a0_7,.int .i64 a0_8,.int .i64 a0_9] 32 (0,0)) (kA BK218.out) hb); have n2_ := Aside0.mk (blk_below (g:=gb221) (o:=.cells #[.int .i64 x222000_2,.int .i64 x222001_2,.int .i64 x222002_2] 24 (0,0)) (kA BK221.out) hb); have n3_ := Aside0.mk (below_step bA hb); clear HO_4; clear BK218; clear BK221; clear HB; have HO_4 := n0_; have BK218 := n1_; have BK221 := n2_; have HB := n3_; clear n0_ n1_ n2_ n3_; (try clear hb); (try clear hb2); (try clear hk); (try clear hi)))
              have n0_ := Aside0.mk (Kd.R_drew HO_4.out)
              have n1_ := Aside0.mk (blk_drew BK218.out)
              have n2_ := Aside0.mk (blk_drew BK221.out)
              have n3_ := Aside0.mk (below_drew1 HB.out)
              clear HO_4
              clear BK218
              clear BK221
              clear HB
              have HO_4 := n0_
              have BK218 := n1_
              have BK221 := n2_
              have HB := n3_
              clear n0_ n1_ n2_ n3_
              have p243 : 0 ≤ (x7_3 : Int) := od
              have q243 : x7_3 < (l0_3.length : Int) := od
              obtain ⟨ad243,e243,hx243_0,hx243_1⟩ := at_T55 HR0_3.out x7_3 p243 q243
              have hw243_1 := hx243_1
              have hw243_0 := hx243_0
              obtain rfl : ad238 = ad243 := (by injection e243)
              replace hx243_0 := cb HB.out hx243_0
              replace hx243_1 := cb HB.out hx243_1
              replace p243 := eq_true p243
              replace q243 := eq_true q243
              have p245 : 0 ≤ (x7_3 : Int) := od
              have q245 : x7_3 < (l0_3.length : Int) := od
              obtain ⟨ad245,e245,hx245_0,hx245_1⟩ := at_T55 HR0_3.out x7_3 p245 q245
              have hw245_1 := hx245_1
              have hw245_0 := hx245_0
              obtain rfl : ad238 = ad245 := (by injection e245)
              replace hx245_0 := cb HB.out hx245_0
              replace hx245_1 := cb HB.out hx245_1
              replace p245 := eq_true p245
              replace q245 := eq_true q245
              refine start_ (n:=24) (S:=fun w' => w'.cell? ⟨gb218,0,none⟩ = some (.int .i64 a0_0) ∧ w'.cell? ⟨gb218,1,none⟩ = some (.int .i64 a0_1) ∧ w'.cell? ⟨gb218,2,none⟩ = some (.slice A0_2 l0_2.length c0_2) ∧ w'.cell? ⟨gb218,3,none⟩ = some (.slice (some ad238) l0_3.length c0_3) ∧ w'.cell? ⟨gb218,4,none⟩ = some (.int .i64 a0_4) ∧ w'.cell? ⟨gb218,5,none⟩ = some (.int .i64 a0_5) ∧ w'.cell? ⟨gb218,6,none⟩ = some (.int .i64 a0_6) ∧ w'.cell? ⟨gb218,7,none⟩ = some (.int .i64 a0_7) ∧ w'.cell? ⟨gb218,8,none⟩ = some (.int .i64 a0_8) ∧ w'.cell? ⟨gb218,9,none⟩ = some (.int .i64 a0_9) ∧ w'.cell? (ad238.add ((x7_3).toNat * 2)) = some (.int .i64 ((rd_T55 l0_3 x7_3).f0)) ∧ w'.cell? ⟨(ad238.add ((x7_3).toNat * 2)).block,(ad238.add ((x7_3).toNat * 2)).off + 1,none⟩ = some (.string ((rd_T55 l0_3 x7_3).f1)) ∧ w'.cell? (ad238.add ((x7_3).toNat * 2)) = some (.int .i64 ((rd_T55 l0_3 x7_3).f0)) ∧ w'.cell? ⟨(ad238.add ((x7_3).toNat * 2)).block,(ad238.add ((x7_3).toNat * 2)).off + 1,none⟩ = some (.string ((rd_T55 l0_3 x7_3).f1))) (ds := []) (bm 24 0) (by kernel_rfl) rfl rfl ⟨(blk_cell BK218.out 0).trans rfl,(blk_cell BK218.out 1).trans rfl,(blk_cell BK218.out 2).trans rfl,(blk_cell BK218.out 3).trans rfl,(blk_cell BK218.out 4).trans rfl,(blk_cell BK218.out 5).trans rfl,(blk_cell BK218.out 6).trans rfl,(blk_cell BK218.out 7).trans rfl,(blk_cell BK218.out 8).trans rfl,(blk_cell BK218.out 9).trans rfl,(cb HB.out hw243_0),(cb HB.out hw243_1),(cb HB.out hw245_0),(cb HB.out hw245_1)⟩ (fun hHeld => ?_); refine with_tabW spec_StateOK.tab17 spec_StateOK.bits17 (fun HT_ HW_ => ?_)
              generalize w120.drew = w121 at HO_4 BK218 BK221 HB hx243_0 hx243_1 hx245_0 hx245_1 hHeld ⊢
              refine pV_ 0 103 (bm 24 1) HT_.out ?_
              refine pV_ 1 104 (bm 24 3) HT_.out ?_
              refine pV_ 2 105 (bm 24 7) HT_.out ?_
              refine pV_ 3 106 (bm 24 15) HT_.out ?_
              refine pV_ 5 108 (bm 24 47) HT_.out ?_
              refine pV_ 9 112 (bm 24 559) HT_.out ?_
              refine take_ (i:=4) (N:=some 107) (v:=?_) (a':=?_) (bm 24 575) rfl rfl (take_ofW HT_.out HW_.out (by kernel_rfl)) (fun _ _ _ h => h) (Or.inl ⟨by rfl,?_⟩) hHeld ?_ ?_
              rotate_left
              ·rintro w' ⟨s0,s1,s2,s3,s4,s5,s6,s7,s8,s9,s10,s11,s12,s13⟩
               go_simp
               with_reducible rfl
              rotate_left
              ·simp only [Act.put,setIfInBounds_toArray,set_cons_zero,set_cons_succ,i64_w,i32_w]
               rfl
              refine pV_ 6 109 (bm 24 639) HT_.out ?_
              refine pV_ 7 110 (bm 24 767) HT_.out ?_
              refine take_ (i:=8) (N:=some 111) (v:=?_) (a':=?_) (bm 24 1023) rfl rfl (take_ofW HT_.out HW_.out (by kernel_rfl)) (fun _ _ _ h => h) (Or.inl ⟨by rfl,?_⟩) hHeld ?_ ?_
              rotate_left
              ·rintro w' ⟨s0,s1,s2,s3,s4,s5,s6,s7,s8,s9,s10,s11,s12,s13⟩
               go_simp
               with_reducible rfl
              rotate_left
              ·simp only [Act.put,setIfInBounds_toArray,set_cons_zero,set_cons_succ,i64_w,i32_w]
               rfl
              refine take_ (i:=10) (N:=some 113) (v:=?_) (a':=?_) (bm 24 2047) rfl rfl (take_ofW HT_.out HW_.out (by kernel_rfl)) (fun _ _ _ h => h) (Or.inl ⟨by rfl,?_⟩) hHeld ?_ ?_
              rotate_left
              ·rintro w' ⟨s0,s1,s2,s3,s4,s5,s6,s7,s8,s9,s10,s11,s12,s13⟩
               go_simp
               with_reducible rfl
              rotate_left
              ·simp only [Act.put,setIfInBounds_toArray,set_cons_zero,set_cons_succ,i64_w,i32_w]
               rfl
              refine one_ (i:=11) (N:=some 114) (bm 24 4095) rfl rfl (one_of HT_.out (by kernel_rfl)) (by decide) (fun K hK => ?_)
              refine goes_ Tryd.func18 (by kernel_rfl) rfl #[.int .i64 ((rd_T55 l0_3 x7_3).f0),.int .i64 1,.int .i64 a0_0] (by rfl) rfl rfl mA ?_
              with_reducible refine (spec_l01In.calls ((rd_T55 l0_3 x7_3).f0) 1 a0_0 true _ A114.out).mono ?_
              rintro e w' ⟨rfl,⟨nd,rfl⟩⟩
              refine ⟨_,rfl,?_⟩
              obtain ⟨Ao122,co122,eo122⟩ := Kd.R_slice HO_4.out
              (first | subst eo122 | (injection eo122 with f1_ f2_ f3_; have f4_ := f1_.symm; have f5_ := f3_.symm; clear f1_ f2_ f3_; subst f4_; subst f5_))
              refine hK.out _ _ ⟨(blk_cell BK218.out 0).trans rfl,(blk_cell BK218.out 1).trans rfl,(blk_cell BK218.out 2).trans rfl,(blk_cell BK218.out 3).trans rfl,(blk_cell BK218.out 4).trans rfl,(blk_cell BK218.out 5).trans rfl,(blk_cell BK218.out 6).trans rfl,(blk_cell BK218.out 7).trans rfl,(blk_cell BK218.out 8).trans rfl,(blk_cell BK218.out 9).trans rfl,(cb HB.out hw243_0),(cb HB.out hw243_1),(cb HB.out hw245_0),(cb HB.out hw245_1)⟩ (fun hHeld => ?_)
              clear hK K
              refine norm_ (a':=?_) ?_ ?_
              rotate_left
              ·show Act.put _ (some 114) _ = _
               simp only [Act.put,setIfInBounds_toArray,set_cons_zero,set_cons_succ,i64_w,i32_w]
               rfl
              refine pV_ 12 115 (bm 24 8191) HT_.out ?_
              refine pV_ 13 116 (bm 24 16383) HT_.out ?_
              refine pV_ 14 117 (bm 24 32767) HT_.out ?_
              refine pV_ 15 118 (bm 24 65535) HT_.out ?_
              refine pV_ 16 119 (bm 24 131071) HT_.out ?_
              refine pV_ 18 121 (bm 24 393215) HT_.out ?_
              refine take_ (i:=17) (N:=some 120) (v:=?_) (a':=?_) (bm 24 524287) rfl rfl (take_ofW HT_.out HW_.out (by kernel_rfl)) (fun _ _ _ h => h) (Or.inl ⟨by rfl,?_⟩) hHeld ?_ ?_
              rotate_left
              ·rintro w' ⟨s0,s1,s2,s3,s4,s5,s6,s7,s8,s9,s10,s11,s12,s13⟩
               go_simp
               with_reducible rfl
              rotate_left
              ·simp only [Act.put,setIfInBounds_toArray,set_cons_zero,set_cons_succ,i64_w,i32_w]
               rfl
              refine pV_ 19 122 (bm 24 1048575) HT_.out ?_
              refine pV_ 20 123 (bm 24 2097151) HT_.out ?_
              refine take_ (i:=21) (N:=some 124) (v:=?_) (a':=?_) (bm 24 4194303) rfl rfl (take_ofW HT_.out HW_.out (by kernel_rfl)) (fun _ _ _ h => h) (Or.inl ⟨by rfl,?_⟩) hHeld ?_ ?_
              rotate_left
              ·rintro w' ⟨s0,s1,s2,s3,s4,s5,s6,s7,s8,s9,s10,s11,s12,s13⟩
               go_simp
               with_reducible rfl
              rotate_left
              ·simp only [Act.put,setIfInBounds_toArray,set_cons_zero,set_cons_succ,i64_w,i32_w]
               rfl
              refine one_ (i:=22) (N:=some 125) (bm 24 8388607) rfl rfl (one_of HT_.out (by kernel_rfl)) (by decide) (fun K hK => ?_)
              refine goes_ Tryd.func20 (by kernel_rfl) rfl #[.slice Ao122 x4_3.length co122,.string ((rd_T55 l0_3 x7_3).f1)] (by rfl) rfl rfl mA ?_
              with_reducible refine (spec_l06In.calls k3 _ _ x4_3 ((rd_T55 l0_3 x7_3).f1) true _ ?side1 ?side2 A116.out).mono ?_
              (case side1 => repeat (first | exact (Kd.R_reads' HO_4.out).2.2 | (with_reducible refine Kd.C_alloc ?_ _) | (with_reducible refine Kd.C_drewN ?_ _) | (with_reducible refine Kd.C_drew ?_)))
              (case side2 => exact (Kd.R_reads' HO_4.out).2.1)
              rintro e w' ⟨rfl,⟨nd,rfl⟩⟩
              refine ⟨_,rfl,?_⟩
              refine hK.out _ _ ⟨(blk_cell BK218.out 0).trans rfl,(blk_cell BK218.out 1).trans rfl,(blk_cell BK218.out 2).trans rfl,(blk_cell BK218.out 3).trans rfl,(blk_cell BK218.out 4).trans rfl,(blk_cell BK218.out 5).trans rfl,(blk_cell BK218.out 6).trans rfl,(blk_cell BK218.out 7).trans rfl,(blk_cell BK218.out 8).trans rfl,(blk_cell BK218.out 9).trans rfl,(cb HB.out hw243_0),(cb HB.out hw243_1),(cb HB.out hw245_0),(cb HB.out hw245_1)⟩ (fun hHeld => ?_)
              clear hK K
              refine norm_ (a':=?_) ?_ ?_
              rotate_left
              ·show Act.put _ (some 125) _ = _
               simp only [Act.put,setIfInBounds_toArray,set_cons_zero,set_cons_succ,i64_w,i32_w]
               rfl
              refine pV_ 23 126 (bm 24 16777215) HT_.out ?_
              refine done_ (done_of HT_.out (by kernel_rfl)) ?_
              try go_wp2
              go_ret
              exact ⟨by first | rfl | (simp only [i64_w,i32_w] <;> rfl) | (simp [errW_none,errW_some] <;> rfl) | (simp [*,errW_none,errW_some] <;> rfl),bA⟩
             ·replace c117 := Bool.eq_false_iff.mpr c117
              subst c117
              rw [if_neg (show ¬ (false = true) by decide)] at H
              by_cases c123 : x4_3.length < 8796093022208
              ·rw [if_pos c123] at H
               have LMc123 := Aside0.mk c123
               clear c123
               obtain ⟨y248,hy248⟩ : ∃ y_ : List ByteArray,y_ = (x4_3 ++ [(rd_T55 l0_3 x7_3).f1]) := ⟨_,rfl⟩
               replace H : (spec_StateOK.l1 k3 y248 (wrap64 (x7_3 + 1)) a0_0 a0_1 l0_2 l0_3 a0_4 a0_5 a0_6 a0_7 a0_8 a0_9 x222000_2 x222001_2 x222002_2) = some r := by first | (rw [hy248]; with_reducible exact H) | (have H2_ := (Option.bind_some _ _).symm.trans H; rw [hy248]; with_reducible exact H2_) | (have H2_ := (Option.bind_some _ _).symm.trans H; with_reducible exact H2_) | with_reducible exact H | (rw [hy248]; exact H) | exact H
               have Ny248 := Aside0.mk hy248
               clear hy248
               have H' := Aside0.mk H
               clear H
               have hnb124 := NB218_221.out
               have hnc124 := NB221_218.out
               obtain ⟨hcz125_0,hcz125_1,hcz125_2,hcz125_3,hcz125_4,hcz125_5,hcz125_6,hcz125_7,hcz125_8,hcz125_9⟩ := cl10 BK218.out
               obtain ⟨hfz125_0,hfz125_1,hfz125_2,hfz125_3,hfz125_4,hfz125_5,hfz125_6,hfz125_7,hfz125_8,hfz125_9⟩ := fz10 BK218.out
               have p238 : 0 ≤ (x7_3 : Int) := od
               have q238 : x7_3 < (l0_3.length : Int) := od
               obtain ⟨ad238,e238,hx238_0,hx238_1⟩ := at_T55 HR0_3.out x7_3 p238 q238
               cases e238
               replace hx238_0 := cb HB.out hx238_0
               replace hx238_1 := cb HB.out hx238_1
               replace p238 := eq_true p238
               replace q238 := eq_true q238
               try go_wp2_with (first | ((with_reducible refine gate_callee (f:=21) rfl ?_); refine goesL_ (some 98) rfl rfl Tryd.func21 (by kernel_rfl) rfl #[.string ((rd_T55 l0_3 x7_3).f1)] rfl mA ?_; (with_reducible refine (spec_l03ToKey.calls k3 ((rd_T55 l0_3 x7_3).f1) t239 t240 t241 true _ A112.out).mono ?_); rintro e w126 ⟨rfl,hb⟩; refine ⟨_,rfl,?_⟩; have n0_ := Aside0.mk (Kd.R_below (rA HO_4.out) hb); have n1_ := Aside0.mk (blk_below (g:=gb218) (o:=.cells #[.int .i64 a0_0,.int .i64 a0_1,.slice A0_2 l0_2.length c0_2,.slice (some ad238) l0_3.length c0_3,.int .i64 a0_4,.int .i64 a0_5,.int .i64 a0_6,.int .i64 a0_7,.int .i64 a0_8,.int .i64 a0_9] 32 (0,0)) (kA BK218.out) hb); have n2_ := Aside0.mk (blk_below (g:=gb221) (o:=.cells #[.int .i64 x222000_2,.int .i64 x222001_2,.int .i64 x222002_2] 24 (0,0)) (kA BK221.out) hb); have n3_ := Aside0.mk (below_step bA hb); clear HO_4; clear BK218; clear BK221; clear HB; have HO_4 := n0_; have BK218 := n1_; have BK221 := n2_; have HB := n3_; clear n0_ n1_ n2_ n3_; (try clear hb); (try clear hb2); (try clear hk); (try clear hi)))
               have n0_ := Aside0.mk (Kd.R_drew HO_4.out)
               have n1_ := Aside0.mk (blk_drew BK218.out)
               have n2_ := Aside0.mk (blk_drew BK221.out)
               have n3_ := Aside0.mk (below_drew1 HB.out)
               clear HO_4
               clear BK218
               clear BK221
               clear HB
               have HO_4 := n0_
               have BK218 := n1_
               have BK221 := n2_
               have HB := n3_
               clear n0_ n1_ n2_ n3_
               have p243 : 0 ≤ (x7_3 : Int) := od
               have q243 : x7_3 < (l0_3.length : Int) := od
               obtain ⟨ad243,e243,hx243_0,hx243_1⟩ := at_T55 HR0_3.out x7_3 p243 q243
               have hw243_1 := hx243_1
               have hw243_0 := hx243_0
               obtain rfl : ad238 = ad243 := (by injection e243)
               replace hx243_0 := cb HB.out hx243_0
               replace hx243_1 := cb HB.out hx243_1
               replace p243 := eq_true p243
               replace q243 := eq_true q243
               have p245 : 0 ≤ (x7_3 : Int) := od
               have q245 : x7_3 < (l0_3.length : Int) := od
               obtain ⟨ad245,e245,hx245_0,hx245_1⟩ := at_T55 HR0_3.out x7_3 p245 q245
               have hw245_1 := hx245_1
               have hw245_0 := hx245_0
               obtain rfl : ad238 = ad245 := (by injection e245)
               replace hx245_0 := cb HB.out hx245_0
               replace hx245_1 := cb HB.out hx245_1
               replace p245 := eq_true p245
               replace q245 := eq_true q245
               refine start_ (n:=24) (S:=fun w' => w'.cell? ⟨gb218,0,none⟩ = some (.int .i64 a0_0) ∧ w'.cell? ⟨gb218,1,none⟩ = some (.int .i64 a0_1) ∧ w'.cell? ⟨gb218,2,none⟩ = some (.slice A0_2 l0_2.length c0_2) ∧ w'.cell? ⟨gb218,3,none⟩ = some (.slice (some ad238) l0_3.length c0_3) ∧ w'.cell? ⟨gb218,4,none⟩ = some (.int .i64 a0_4) ∧ w'.cell? ⟨gb218,5,none⟩ = some (.int .i64 a0_5) ∧ w'.cell? ⟨gb218,6,none⟩ = some (.int .i64 a0_6) ∧ w'.cell? ⟨gb218,7,none⟩ = some (.int .i64 a0_7) ∧ w'.cell? ⟨gb218,8,none⟩ = some (.int .i64 a0_8) ∧ w'.cell? ⟨gb218,9,none⟩ = some (.int .i64 a0_9) ∧ w'.cell? (ad238.add ((x7_3).toNat * 2)) = some (.int .i64 ((rd_T55 l0_3 x7_3).f0)) ∧ w'.cell? ⟨(ad238.add ((x7_3).toNat * 2)).block,(ad238.add ((x7_3).toNat * 2)).off + 1,none⟩ = some (.string ((rd_T55 l0_3 x7_3).f1)) ∧ w'.cell? (ad238.add ((x7_3).toNat * 2)) = some (.int .i64 ((rd_T55 l0_3 x7_3).f0)) ∧ w'.cell? ⟨(ad238.add ((x7_3).toNat * 2)).block,(ad238.add ((x7_3).toNat * 2)).off + 1,none⟩ = some (.string ((rd_T55 l0_3 x7_3).f1))) (ds := []) (bm 24 0) (by kernel_rfl) rfl rfl ⟨(blk_cell BK218.out 0).trans rfl,(blk_cell BK218.out 1).trans rfl,(blk_cell BK218.out 2).trans rfl,(blk_cell BK218.out 3).trans rfl,(blk_cell BK218.out 4).trans rfl,(blk_cell BK218.out 5).trans rfl,(blk_cell BK218.out 6).trans rfl,(blk_cell BK218.out 7).trans rfl,(blk_cell BK218.out 8).trans rfl,(blk_cell BK218.out 9).trans rfl,(cb HB.out hw243_0),(cb HB.out hw243_1),(cb HB.out hw245_0),(cb HB.out hw245_1)⟩ (fun hHeld => ?_); refine with_tabW spec_StateOK.tab17 spec_StateOK.bits17 (fun HT_ HW_ => ?_)
               generalize w126.drew = w127 at HO_4 BK218 BK221 HB hx243_0 hx243_1 hx245_0 hx245_1 hHeld ⊢
               refine pV_ 0 103 (bm 24 1) HT_.out ?_
               refine pV_ 1 104 (bm 24 3) HT_.out ?_
               refine pV_ 2 105 (bm 24 7) HT_.out ?_
               refine pV_ 3 106 (bm 24 15) HT_.out ?_
               refine pV_ 5 108 (bm 24 47) HT_.out ?_
               refine pV_ 9 112 (bm 24 559) HT_.out ?_
               refine take_ (i:=4) (N:=some 107) (v:=?_) (a':=?_) (bm 24 575) rfl rfl (take_ofW HT_.out HW_.out (by kernel_rfl)) (fun _ _ _ h => h) (Or.inl ⟨by rfl,?_⟩) hHeld ?_ ?_
               rotate_left
               ·rintro w' ⟨s0,s1,s2,s3,s4,s5,s6,s7,s8,s9,s10,s11,s12,s13⟩
                go_simp
                with_reducible rfl
               rotate_left
               ·simp only [Act.put,setIfInBounds_toArray,set_cons_zero,set_cons_succ,i64_w,i32_w]
                rfl
               refine pV_ 6 109 (bm 24 639) HT_.out ?_
               refine pV_ 7 110 (bm 24 767) HT_.out ?_
               refine take_ (i:=8) (N:=some 111) (v:=?_) (a':=?_) (bm 24 1023) rfl rfl (take_ofW HT_.out HW_.out (by kernel_rfl)) (fun _ _ _ h => h) (Or.inl ⟨by rfl,?_⟩) hHeld ?_ ?_
               rotate_left
               ·rintro w' ⟨s0,s1,s2,s3,s4,s5,s6,s7,s8,s9,s10,s11,s12,s13⟩
                go_simp
                with_reducible rfl
               rotate_left
               ·simp only [Act.put,setIfInBounds_toArray,set_cons_zero,set_cons_succ,i64_w,i32_w]
                rfl
               refine take_ (i:=10) (N:=some 113) (v:=?_) (a':=?_) (bm 24 2047) rfl rfl (take_ofW HT_.out HW_.out (by kernel_rfl)) (fun _ _ _ h => h) (Or.inl ⟨by rfl,?_⟩) hHeld ?_ ?_
               rotate_left
               ·rintro w' ⟨s0,s1,s2,s3,s4,s5,s6,s7,s8,s9,s10,s11,s12,s13⟩
                go_simp
                with_reducible rfl
               rotate_left
               ·simp only [Act.put,setIfInBounds_toArray,set_cons_zero,set_cons_succ,i64_w,i32_w]
                rfl
               refine one_ (i:=11) (N:=some 114) (bm 24 4095) rfl rfl (one_of HT_.out (by kernel_rfl)) (by decide) (fun K hK => ?_)
               refine goes_ Tryd.func18 (by kernel_rfl) rfl #[.int .i64 ((rd_T55 l0_3 x7_3).f0),.int .i64 1,.int .i64 a0_0] (by rfl) rfl rfl mA ?_
               with_reducible refine (spec_l01In.calls ((rd_T55 l0_3 x7_3).f0) 1 a0_0 true _ A114.out).mono ?_
               rintro e w' ⟨rfl,⟨nd,rfl⟩⟩
               refine ⟨_,rfl,?_⟩
               obtain ⟨Ao128,co128,eo128⟩ := Kd.R_slice HO_4.out
               (first | subst eo128 | (injection eo128 with f1_ f2_ f3_; have f4_ := f1_.symm; have f5_ := f3_.symm; clear f1_ f2_ f3_; subst f4_; subst f5_))
               refine hK.out _ _ ⟨(blk_cell BK218.out 0).trans rfl,(blk_cell BK218.out 1).trans rfl,(blk_cell BK218.out 2).trans rfl,(blk_cell BK218.out 3).trans rfl,(blk_cell BK218.out 4).trans rfl,(blk_cell BK218.out 5).trans rfl,(blk_cell BK218.out 6).trans rfl,(blk_cell BK218.out 7).trans rfl,(blk_cell BK218.out 8).trans rfl,(blk_cell BK218.out 9).trans rfl,(cb HB.out hw243_0),(cb HB.out hw243_1),(cb HB.out hw245_0),(cb HB.out hw245_1)⟩ (fun hHeld => ?_)
               clear hK K
               refine norm_ (a':=?_) ?_ ?_
               rotate_left
               ·show Act.put _ (some 114) _ = _
                simp only [Act.put,setIfInBounds_toArray,set_cons_zero,set_cons_succ,i64_w,i32_w]
                rfl
               refine pV_ 12 115 (bm 24 8191) HT_.out ?_
               refine pV_ 13 116 (bm 24 16383) HT_.out ?_
               refine pV_ 14 117 (bm 24 32767) HT_.out ?_
               refine pV_ 15 118 (bm 24 65535) HT_.out ?_
               refine pV_ 16 119 (bm 24 131071) HT_.out ?_
               refine pV_ 18 121 (bm 24 393215) HT_.out ?_
               refine take_ (i:=17) (N:=some 120) (v:=?_) (a':=?_) (bm 24 524287) rfl rfl (take_ofW HT_.out HW_.out (by kernel_rfl)) (fun _ _ _ h => h) (Or.inl ⟨by rfl,?_⟩) hHeld ?_ ?_
               rotate_left
               ·rintro w' ⟨s0,s1,s2,s3,s4,s5,s6,s7,s8,s9,s10,s11,s12,s13⟩
                go_simp
                with_reducible rfl
               rotate_left
               ·simp only [Act.put,setIfInBounds_toArray,set_cons_zero,set_cons_succ,i64_w,i32_w]
                rfl
               refine pV_ 19 122 (bm 24 1048575) HT_.out ?_
               refine pV_ 20 123 (bm 24 2097151) HT_.out ?_
               refine take_ (i:=21) (N:=some 124) (v:=?_) (a':=?_) (bm 24 4194303) rfl rfl (take_ofW HT_.out HW_.out (by kernel_rfl)) (fun _ _ _ h => h) (Or.inl ⟨by rfl,?_⟩) hHeld ?_ ?_
               rotate_left
               ·rintro w' ⟨s0,s1,s2,s3,s4,s5,s6,s7,s8,s9,s10,s11,s12,s13⟩
                go_simp
                with_reducible rfl
               rotate_left
               ·simp only [Act.put,setIfInBounds_toArray,set_cons_zero,set_cons_succ,i64_w,i32_w]
                rfl
               refine one_ (i:=22) (N:=some 125) (bm 24 8388607) rfl rfl (one_of HT_.out (by kernel_rfl)) (by decide) (fun K hK => ?_)
               refine goes_ Tryd.func20 (by kernel_rfl) rfl #[.slice Ao128 x4_3.length co128,.string ((rd_T55 l0_3 x7_3).f1)] (by rfl) rfl rfl mA ?_
               with_reducible refine (spec_l06In.calls k3 _ _ x4_3 ((rd_T55 l0_3 x7_3).f1) false _ ?side1 ?side2 A116.out).mono ?_
               (case side1 => repeat (first | exact (Kd.R_reads' HO_4.out).2.2 | (with_reducible refine Kd.C_alloc ?_ _) | (with_reducible refine Kd.C_drewN ?_ _) | (with_reducible refine Kd.C_drew ?_)))
               (case side2 => exact (Kd.R_reads' HO_4.out).2.1)
               rintro e w' ⟨rfl,⟨nd,rfl⟩⟩
               refine ⟨_,rfl,?_⟩
               refine hK.out _ _ ⟨(blk_cell BK218.out 0).trans rfl,(blk_cell BK218.out 1).trans rfl,(blk_cell BK218.out 2).trans rfl,(blk_cell BK218.out 3).trans rfl,(blk_cell BK218.out 4).trans rfl,(blk_cell BK218.out 5).trans rfl,(blk_cell BK218.out 6).trans rfl,(blk_cell BK218.out 7).trans rfl,(blk_cell BK218.out 8).trans rfl,(blk_cell BK218.out 9).trans rfl,(cb HB.out hw243_0),(cb HB.out hw243_1),(cb HB.out hw245_0),(cb HB.out hw245_1)⟩ (fun hHeld => ?_)
               clear hK K
               refine norm_ (a':=?_) ?_ ?_
               rotate_left
               ·show Act.put _ (some 125) _ = _
                simp only [Act.put,setIfInBounds_toArray,set_cons_zero,set_cons_succ,i64_w,i32_w]
                rfl
               refine pV_ 23 126 (bm 24 16777215) HT_.out ?_
               refine done_ (done_of HT_.out (by kernel_rfl)) ?_
               obtain ⟨hcz129_0,hcz129_1,hcz129_2,hcz129_3,hcz129_4,hcz129_5,hcz129_6,hcz129_7,hcz129_8,hcz129_9⟩ := cl10 BK218.out
               obtain ⟨hfz129_0,hfz129_1,hfz129_2,hfz129_3,hfz129_4,hfz129_5,hfz129_6,hfz129_7,hfz129_8,hfz129_9⟩ := fz10 BK218.out
               have p247 : 0 ≤ (x7_3 : Int) := od
               have q247 : x7_3 < (l0_3.length : Int) := od
               obtain ⟨ad247,e247,hx247_0,hx247_1⟩ := at_T55 HR0_3.out x7_3 p247 q247
               obtain rfl : ad238 = ad247 := (by injection e247)
               replace hx247_0 := cb HB.out hx247_0
               replace hx247_1 := cb HB.out hx247_1
               replace p247 := eq_true p247
               replace q247 := eq_true q247
               try go_wp2_with (first | ((with_reducible refine gate_builtin (b:=.append) (xs := #[.tmp 127,.tmp 134]) rfl ?_); (try (refine gate_guard (by rfl) ?_; dsimp only)); at_builtin; refine Kd.R_append Kd.string (w0 := w) w.heap.size rfl (.tmp 127) (.tmp 134) 47 9 (.string ⟨#[]⟩) 16 rfl Tryd.underlying47 info9 rfl (by decide) (by omega) (.slice Ao128 x4_3.length co128) x4_3 ((rd_T55 l0_3 x7_3).f1) [.string ((rd_T55 l0_3 x7_3).f1)] (fun _ => True) (fun _ => False) rfl rfl ?aP (fun _ hk => hk.elim) ?aF ?aO ?aB ?aS ?aL ?_; (case aP => exact rfl); (case aB => exact bA); (case aF => exact (fun _ _ => trivial)); (case aO => exact (rA HO_4.out)); (case aS => exact (below_size bA)); (case aL => have := LMc123.out; omega); intro v249 w130 ho hb hg hat; rw [← Ny248.out] at ho; have n0_ := Aside0.mk (blk_grown (g:=gb218) (o:=.cells #[.int .i64 a0_0,.int .i64 a0_1,.slice A0_2 l0_2.length c0_2,.slice (some ad238) l0_3.length c0_3,.int .i64 a0_4,.int .i64 a0_5,.int .i64 a0_6,.int .i64 a0_7,.int .i64 a0_8,.int .i64 a0_9] 32 (0,0)) (kA BK218.out) hg (Kd.R_ne HO_4.out BK218.out (by decide))); have n1_ := Aside0.mk (blk_grown (g:=gb221) (o:=.cells #[.int .i64 x222000_2,.int .i64 x222001_2,.int .i64 x222002_2] 24 (0,0)) (kA BK221.out) hg (Kd.R_ne HO_4.out BK221.out (by decide))); have n2_ := Aside0.mk (hb); have n3_ := Aside0.mk (ho); clear BK218; clear BK221; clear HB; clear HO_4; have BK218 := n0_; have BK221 := n1_; have HB := n2_; have HO250 := n3_; clear n0_ n1_ n2_ n3_; clear ho hb hg hat))
               go_roundg k3
               case measure => have := HJ1.out; have := HK2.out; have := HK3.out; omega
               case rel => exact ⟨(y248),(wrap64 (x7_3 + 1)),(by first | rfl | (simp; done) | (simp [*]; done)),H',⟨by have := HJ1.out; have := HK2.out; have := HK3.out; omega⟩,⟨rA HO250.out⟩,⟨kA BK218.out⟩,⟨kA BK221.out⟩,⟨bA⟩⟩
              ·rw [if_neg c123] at H
               exact absurd H (by simp)
            ·replace c115 := Bool.eq_false_iff.mpr c115
             subst c115
             rw [if_neg (show ¬ (false = true) by decide)] at H
             obtain rfl := Option.some.inj H
             have hnb131 := NB218_221.out
             have hnc131 := NB221_218.out
             obtain ⟨hcz132_0,hcz132_1,hcz132_2,hcz132_3,hcz132_4,hcz132_5,hcz132_6,hcz132_7,hcz132_8,hcz132_9⟩ := cl10 BK218.out
             obtain ⟨hfz132_0,hfz132_1,hfz132_2,hfz132_3,hfz132_4,hfz132_5,hfz132_6,hfz132_7,hfz132_8,hfz132_9⟩ := fz10 BK218.out
             have p238 : 0 ≤ (x7_3 : Int) := od
             have q238 : x7_3 < (l0_3.length : Int) := od
             obtain ⟨ad238,e238,hx238_0,hx238_1⟩ := at_T55 HR0_3.out x7_3 p238 q238
             cases e238
             replace hx238_0 := cb HB.out hx238_0
             replace hx238_1 := cb HB.out hx238_1
             replace p238 := eq_true p238
             replace q238 := eq_true q238
             try go_wp2_with (first | ((with_reducible refine gate_callee (f:=21) rfl ?_); refine goesL_ (some 98) rfl rfl Tryd.func21 (by kernel_rfl) rfl #[.string ((rd_T55 l0_3 x7_3).f1)] rfl mA ?_; (with_reducible refine (spec_l03ToKey.calls k3 ((rd_T55 l0_3 x7_3).f1) t239 t240 t241 true _ A112.out).mono ?_); rintro e w133 ⟨rfl,hb⟩; refine ⟨_,rfl,?_⟩; have n0_ := Aside0.mk (Kd.R_below (rA HO_4.out) hb); have n1_ := Aside0.mk (blk_below (g:=gb218) (o:=.cells #[.int .i64 a0_0,.int .i64 a0_1,.slice A0_2 l0_2.length c0_2,.slice (some ad238) l0_3.length c0_3,.int .i64 a0_4,.int .i64 a0_5,.int .i64 a0_6,.int .i64 a0_7,.int .i64 a0_8,.int .i64 a0_9] 32 (0,0)) (kA BK218.out) hb); have n2_ := Aside0.mk (blk_below (g:=gb221) (o:=.cells #[.int .i64 x222000_2,.int .i64 x222001_2,.int .i64 x222002_2] 24 (0,0)) (kA BK221.out) hb); have n3_ := Aside0.mk (below_step bA hb); clear HO_4; clear BK218; clear BK221; clear HB; have HO_4 := n0_; have BK218 := n1_; have BK221 := n2_; have HB := n3_; clear n0_ n1_ n2_ n3_; (try clear hb); (try clear hb2); (try clear hk); (try clear hi)))
             have n0_ := Aside0.mk (Kd.R_drew HO_4.out)
             have n1_ := Aside0.mk (blk_drew BK218.out)
             have n2_ := Aside0.mk (blk_drew BK221.out)
             have n3_ := Aside0.mk (below_drew1 HB.out)
             clear HO_4
             clear BK218
             clear BK221
             clear HB
             have HO_4 := n0_
             have BK218 := n1_
             have BK221 := n2_
             have HB := n3_
             clear n0_ n1_ n2_ n3_
             have p243 : 0 ≤ (x7_3 : Int) := od
             have q243 : x7_3 < (l0_3.length : Int) := od
             obtain ⟨ad243,e243,hx243_0,hx243_1⟩ := at_T55 HR0_3.out x7_3 p243 q243
             have hw243_1 := hx243_1
             have hw243_0 := hx243_0
             obtain rfl : ad238 = ad243 := (by injection e243)
             replace hx243_0 := cb HB.out hx243_0
             replace hx243_1 := cb HB.out hx243_1
             replace p243 := eq_true p243
             replace q243 := eq_true q243
             refine start_ (n:=24) (S:=fun w' => w'.cell? ⟨gb218,0,none⟩ = some (.int .i64 a0_0) ∧ w'.cell? ⟨gb218,1,none⟩ = some (.int .i64 a0_1) ∧ w'.cell? ⟨gb218,2,none⟩ = some (.slice A0_2 l0_2.length c0_2) ∧ w'.cell? ⟨gb218,3,none⟩ = some (.slice (some ad238) l0_3.length c0_3) ∧ w'.cell? ⟨gb218,4,none⟩ = some (.int .i64 a0_4) ∧ w'.cell? ⟨gb218,5,none⟩ = some (.int .i64 a0_5) ∧ w'.cell? ⟨gb218,6,none⟩ = some (.int .i64 a0_6) ∧ w'.cell? ⟨gb218,7,none⟩ = some (.int .i64 a0_7) ∧ w'.cell? ⟨gb218,8,none⟩ = some (.int .i64 a0_8) ∧ w'.cell? ⟨gb218,9,none⟩ = some (.int .i64 a0_9) ∧ w'.cell? (ad238.add ((x7_3).toNat * 2)) = some (.int .i64 ((rd_T55 l0_3 x7_3).f0)) ∧ w'.cell? ⟨(ad238.add ((x7_3).toNat * 2)).block,(ad238.add ((x7_3).toNat * 2)).off + 1,none⟩ = some (.string ((rd_T55 l0_3 x7_3).f1))) (ds := []) (bm 24 0) (by kernel_rfl) rfl rfl ⟨(blk_cell BK218.out 0).trans rfl,(blk_cell BK218.out 1).trans rfl,(blk_cell BK218.out 2).trans rfl,(blk_cell BK218.out 3).trans rfl,(blk_cell BK218.out 4).trans rfl,(blk_cell BK218.out 5).trans rfl,(blk_cell BK218.out 6).trans rfl,(blk_cell BK218.out 7).trans rfl,(blk_cell BK218.out 8).trans rfl,(blk_cell BK218.out 9).trans rfl,(cb HB.out hw243_0),(cb HB.out hw243_1)⟩ (fun hHeld => ?_); refine with_tabW spec_StateOK.tab17 spec_StateOK.bits17 (fun HT_ HW_ => ?_)
             generalize w133.drew = w134 at HO_4 BK218 BK221 HB hx243_0 hx243_1 hHeld ⊢
             refine pV_ 0 103 (bm 24 1) HT_.out ?_
             refine pV_ 1 104 (bm 24 3) HT_.out ?_
             refine pV_ 2 105 (bm 24 7) HT_.out ?_
             refine pV_ 3 106 (bm 24 15) HT_.out ?_
             refine pV_ 5 108 (bm 24 47) HT_.out ?_
             refine pV_ 9 112 (bm 24 559) HT_.out ?_
             refine take_ (i:=4) (N:=some 107) (v:=?_) (a':=?_) (bm 24 575) rfl rfl (take_ofW HT_.out HW_.out (by kernel_rfl)) (fun _ _ _ h => h) (Or.inl ⟨by rfl,?_⟩) hHeld ?_ ?_
             rotate_left
             ·rintro w' ⟨s0,s1,s2,s3,s4,s5,s6,s7,s8,s9,s10,s11⟩
              go_simp
              with_reducible rfl
             rotate_left
             ·simp only [Act.put,setIfInBounds_toArray,set_cons_zero,set_cons_succ,i64_w,i32_w]
              rfl
             refine pV_ 6 109 (bm 24 639) HT_.out ?_
             refine pV_ 7 110 (bm 24 767) HT_.out ?_
             refine take_ (i:=8) (N:=some 111) (v:=?_) (a':=?_) (bm 24 1023) rfl rfl (take_ofW HT_.out HW_.out (by kernel_rfl)) (fun _ _ _ h => h) (Or.inl ⟨by rfl,?_⟩) hHeld ?_ ?_
             rotate_left
             ·rintro w' ⟨s0,s1,s2,s3,s4,s5,s6,s7,s8,s9,s10,s11⟩
              go_simp
              with_reducible rfl
             rotate_left
             ·simp only [Act.put,setIfInBounds_toArray,set_cons_zero,set_cons_succ,i64_w,i32_w]
              rfl
             refine take_ (i:=10) (N:=some 113) (v:=?_) (a':=?_) (bm 24 2047) rfl rfl (take_ofW HT_.out HW_.out (by kernel_rfl)) (fun _ _ _ h => h) (Or.inl ⟨by rfl,?_⟩) hHeld ?_ ?_
             rotate_left
             ·rintro w' ⟨s0,s1,s2,s3,s4,s5,s6,s7,s8,s9,s10,s11⟩
              go_simp
              with_reducible rfl
             rotate_left
             ·simp only [Act.put,setIfInBounds_toArray,set_cons_zero,set_cons_succ,i64_w,i32_w]
              rfl
             refine one_ (i:=11) (N:=some 114) (bm 24 4095) rfl rfl (one_of HT_.out (by kernel_rfl)) (by decide) (fun K hK => ?_)
             refine goes_ Tryd.func18 (by kernel_rfl) rfl #[.int .i64 ((rd_T55 l0_3 x7_3).f0),.int .i64 1,.int .i64 a0_0] (by rfl) rfl rfl mA ?_
             with_reducible refine (spec_l01In.calls ((rd_T55 l0_3 x7_3).f0) 1 a0_0 false _ A114.out).mono ?_
             rintro e w' ⟨rfl,⟨nd,rfl⟩⟩
             refine ⟨_,rfl,?_⟩
             refine hK.out _ _ ⟨(blk_cell BK218.out 0).trans rfl,(blk_cell BK218.out 1).trans rfl,(blk_cell BK218.out 2).trans rfl,(blk_cell BK218.out 3).trans rfl,(blk_cell BK218.out 4).trans rfl,(blk_cell BK218.out 5).trans rfl,(blk_cell BK218.out 6).trans rfl,(blk_cell BK218.out 7).trans rfl,(blk_cell BK218.out 8).trans rfl,(blk_cell BK218.out 9).trans rfl,(cb HB.out hw243_0),(cb HB.out hw243_1)⟩ (fun hHeld => ?_)
             clear hK K
             refine norm_ (a':=?_) ?_ ?_
             rotate_left
             ·show Act.put _ (some 114) _ = _
              simp only [Act.put,setIfInBounds_toArray,set_cons_zero,set_cons_succ,i64_w,i32_w]
              rfl
             refine pV_ 12 115 (bm 24 8191) HT_.out ?_
             refine pV_ 13 116 (bm 24 16383) HT_.out ?_
             refine pV_ 14 117 (bm 24 32767) HT_.out ?_
             refine pU_ 15 118 (bm 24 65535) HT_.out ?_
             refine pU_ 16 119 (bm 24 131071) HT_.out ?_
             refine pU_ 17 120 (bm 24 262143) HT_.out ?_
             refine pU_ 18 121 (bm 24 524287) HT_.out ?_
             refine pU_ 19 122 (bm 24 1048575) HT_.out ?_
             refine pU_ 20 123 (bm 24 2097151) HT_.out ?_
             refine pU_ 21 124 (bm 24 4194303) HT_.out ?_
             refine pU_ 22 125 (bm 24 8388607) HT_.out ?_
             refine pV_ 23 126 (bm 24 16777215) HT_.out ?_
             refine done_ (done_of HT_.out (by kernel_rfl)) ?_
             try go_wp2
             go_ret
             exact ⟨by first | rfl | (simp only [i64_w,i32_w] <;> rfl) | (simp [errW_none,errW_some] <;> rfl) | (simp [*,errW_none,errW_some] <;> rfl),bA⟩
           ·replace c113 := Bool.eq_false_iff.mpr c113
            subst c113
            rw [if_neg (show ¬ (false = true) by decide)] at H
            obtain rfl := Option.some.inj H
            have hnb135 := NB218_221.out
            have hnc135 := NB221_218.out
            obtain ⟨hcz136_0,hcz136_1,hcz136_2,hcz136_3,hcz136_4,hcz136_5,hcz136_6,hcz136_7,hcz136_8,hcz136_9⟩ := cl10 BK218.out
            obtain ⟨hfz136_0,hfz136_1,hfz136_2,hfz136_3,hfz136_4,hfz136_5,hfz136_6,hfz136_7,hfz136_8,hfz136_9⟩ := fz10 BK218.out
            have p238 : 0 ≤ (x7_3 : Int) := od
            have q238 : x7_3 < (l0_3.length : Int) := od
            obtain ⟨ad238,e238,hx238_0,hx238_1⟩ := at_T55 HR0_3.out x7_3 p238 q238
            cases e238
            replace hx238_0 := cb HB.out hx238_0
            replace hx238_1 := cb HB.out hx238_1
            replace p238 := eq_true p238
            replace q238 := eq_true q238
            try go_wp2_with (first | ((with_reducible refine gate_callee (f:=21) rfl ?_); refine goesL_ (some 98) rfl rfl Tryd.func21 (by kernel_rfl) rfl #[.string ((rd_T55 l0_3 x7_3).f1)] rfl mA ?_; (with_reducible refine (spec_l03ToKey.calls k3 ((rd_T55 l0_3 x7_3).f1) t239 t240 t241 false _ A112.out).mono ?_); rintro e w137 ⟨rfl,hb⟩; refine ⟨_,rfl,?_⟩; have n0_ := Aside0.mk (Kd.R_below (rA HO_4.out) hb); have n1_ := Aside0.mk (blk_below (g:=gb218) (o:=.cells #[.int .i64 a0_0,.int .i64 a0_1,.slice A0_2 l0_2.length c0_2,.slice (some ad238) l0_3.length c0_3,.int .i64 a0_4,.int .i64 a0_5,.int .i64 a0_6,.int .i64 a0_7,.int .i64 a0_8,.int .i64 a0_9] 32 (0,0)) (kA BK218.out) hb); have n2_ := Aside0.mk (blk_below (g:=gb221) (o:=.cells #[.int .i64 x222000_2,.int .i64 x222001_2,.int .i64 x222002_2] 24 (0,0)) (kA BK221.out) hb); have n3_ := Aside0.mk (below_step bA hb); clear HO_4; clear BK218; clear BK221; clear HB; have HO_4 := n0_; have BK218 := n1_; have BK221 := n2_; have HB := n3_; clear n0_ n1_ n2_ n3_; (try clear hb); (try clear hb2); (try clear hk); (try clear hi)))
            have n0_ := Aside0.mk (Kd.R_drew HO_4.out)
            have n1_ := Aside0.mk (blk_drew BK218.out)
            have n2_ := Aside0.mk (blk_drew BK221.out)
            have n3_ := Aside0.mk (below_drew1 HB.out)
            clear HO_4
            clear BK218
            clear BK221
            clear HB
            have HO_4 := n0_
            have BK218 := n1_
            have BK221 := n2_
            have HB := n3_
            clear n0_ n1_ n2_ n3_
            refine start_ (n:=24) (S:=fun w' => True) (ds := []) (bm 24 0) (by kernel_rfl) rfl rfl trivial (fun hHeld => ?_); refine with_tabW spec_StateOK.tab17 spec_StateOK.bits17 (fun HT_ HW_ => ?_)
            generalize w137.drew = w138 at HO_4 BK218 BK221 HB hHeld ⊢
            refine pV_ 0 103 (bm 24 1) HT_.out ?_
            refine pV_ 1 104 (bm 24 3) HT_.out ?_
            refine pV_ 2 105 (bm 24 7) HT_.out ?_
            refine pU_ 3 106 (bm 24 15) HT_.out ?_
            refine pU_ 4 107 (bm 24 31) HT_.out ?_
            refine pU_ 5 108 (bm 24 63) HT_.out ?_
            refine pU_ 6 109 (bm 24 127) HT_.out ?_
            refine pU_ 7 110 (bm 24 255) HT_.out ?_
            refine pU_ 8 111 (bm 24 511) HT_.out ?_
            refine pU_ 9 112 (bm 24 1023) HT_.out ?_
            refine pU_ 10 113 (bm 24 2047) HT_.out ?_
            refine pU_ 11 114 (bm 24 4095) HT_.out ?_
            refine pU_ 12 115 (bm 24 8191) HT_.out ?_
            refine pV_ 13 116 (bm 24 16383) HT_.out ?_
            refine pV_ 14 117 (bm 24 32767) HT_.out ?_
            refine pU_ 15 118 (bm 24 65535) HT_.out ?_
            refine pU_ 16 119 (bm 24 131071) HT_.out ?_
            refine pU_ 17 120 (bm 24 262143) HT_.out ?_
            refine pU_ 18 121 (bm 24 524287) HT_.out ?_
            refine pU_ 19 122 (bm 24 1048575) HT_.out ?_
            refine pU_ 20 123 (bm 24 2097151) HT_.out ?_
            refine pU_ 21 124 (bm 24 4194303) HT_.out ?_
            refine pU_ 22 125 (bm 24 8388607) HT_.out ?_
            refine pV_ 23 126 (bm 24 16777215) HT_.out ?_
            refine done_ (done_of HT_.out (by kernel_rfl)) ?_
            try go_wp2
            go_ret
            exact ⟨by first | rfl | (simp only [i64_w,i32_w] <;> rfl) | (simp [errW_none,errW_some] <;> rfl) | (simp [*,errW_none,errW_some] <;> rfl),bA⟩
          ·rw [if_neg c111] at H
           exact absurd H (by simp)
         ·rw [if_neg c110] at H
          have c110b0 : decide (x7_3 < (l0_3.length : Int)) = false := decide_eq_false c110
          clear c110
          have H' := Aside0.mk H
          clear H
          have hnb139 := NB218_221.out
          have hnc139 := NB221_218.out
          obtain ⟨hcz140_0,hcz140_1,hcz140_2,hcz140_3,hcz140_4,hcz140_5,hcz140_6,hcz140_7,hcz140_8,hcz140_9⟩ := cl10 BK218.out
          obtain ⟨hfz140_0,hfz140_1,hfz140_2,hfz140_3,hfz140_4,hfz140_5,hfz140_6,hfz140_7,hfz140_8,hfz140_9⟩ := fz10 BK218.out
          go_wp2
          go_loopg [12] k3 (fun kq v12 w' => ∃ (x12_4 : Int),v12 = .int .i64 x12_4 ∧ Aside0 (spec_StateOK.l2 kq x12_4 a0_0 a0_1 l0_2 l0_3 a0_4 a0_5 a0_6 a0_7 a0_8 a0_9 x222000_2 x222001_2 x222002_2 = some r) ∧ Aside0 (kq ≤ k3) ∧ Aside0 (w'.heap[gb218]? = some (.cells #[.int .i64 a0_0,.int .i64 a0_1,(.slice A0_2 l0_2.length c0_2),(.slice A0_3 l0_3.length c0_3),.int .i64 a0_4,.int .i64 a0_5,.int .i64 a0_6,.int .i64 a0_7,.int .i64 a0_8,.int .i64 a0_9] 32 (0,0))) ∧ Aside0 (w'.heap[gb221]? = some (.cells #[.int .i64 x222000_2,.int .i64 x222001_2,.int .i64 x222002_2] 24 (0,0))) ∧ Aside0 (Below w.heap.size w w'))
          case atStart => exact ⟨(0),(by first | rfl | (simp; done) | (simp [*]; done)),H',⟨Nat.le_refl _⟩,⟨kA BK218.out⟩,⟨kA BK221.out⟩,⟨bA⟩⟩
          case round =>
           clear H'
           try clear c1
           try clear c2
           try clear p2
           try clear q2
           try clear hx2
           try clear p6
           try clear c11
           try clear c12
           try clear c13
           try clear c18
           try clear c20
           try clear c21
           try clear p23
           try clear q23
           try clear hx23
           try clear p24
           try clear q24
           try clear hx24
           try clear p64
           try clear c110
           try clear c110b0
           try clear c111
           try clear c113
           try clear c115
           try clear c123
           try clear c131
           try clear c135
           try clear c139
           try clear hcz129_0
           try clear hcz129_1
           try clear hcz129_2
           try clear hcz129_3
           try clear hcz129_4
           try clear hcz129_5
           try clear hcz129_6
           try clear hcz129_7
           try clear hcz129_8
           try clear hcz129_9
           try clear hcz132_0
           try clear hcz132_1
           try clear hcz132_2
           try clear hcz132_3
           try clear hcz132_4
           try clear hcz132_5
           try clear hcz132_6
           try clear hcz132_7
           try clear hcz132_8
           try clear hcz132_9
           try clear hcz136_0
           try clear hcz136_1
           try clear hcz136_2
           try clear hcz136_3
           try clear hcz136_4
           try clear hcz136_5
           try clear hcz136_6
           try clear hcz136_7
           try clear hcz136_8
           try clear hcz136_9
           try clear hcz140_0
           try clear hcz140_1
           try clear hcz140_2
           try clear hcz140_3
           try clear hcz140_4
           try clear hcz140_5
           try clear hcz140_6
           try clear hcz140_7
           try clear hcz140_8
           try clear hcz140_9
           try clear hfz129_0
           try clear hfz129_1
           try clear hfz129_2
           try clear hfz129_3
           try clear hfz129_4
           try clear hfz129_5
           try clear hfz129_6
           try clear hfz129_7
           try clear hfz129_8
           try clear hfz129_9
           try clear hfz132_0
           try clear hfz132_1
           try clear hfz132_2
           try clear hfz132_3
           try clear hfz132_4
           try clear hfz132_5
           try clear hfz132_6
           try clear hfz132_7
           try clear hfz132_8
           try clear hfz132_9
           try clear hfz136_0
           try clear hfz136_1
           try clear hfz136_2
           try clear hfz136_3
           try clear hfz136_4
           try clear hfz136_5
           try clear hfz136_6
           try clear hfz136_7
           try clear hfz136_8
           try clear hfz136_9
           try clear hfz140_0
           try clear hfz140_1
           try clear hfz140_2
           try clear hfz140_3
           try clear hfz140_4
           try clear hfz140_5
           try clear hfz140_6
           try clear hfz140_7
           try clear hfz140_8
           try clear hfz140_9
           try clear hx238_0
           try clear hx238_1
           try clear hx243_0
           try clear hx243_1
           try clear hx247_0
           try clear hx247_1
           try clear p238
           try clear p243
           try clear p247
           try clear q238
           try clear q243
           try clear q247
           obtain ⟨x12_4,rfl,HA,HK4,BK218,BK221,HB⟩ := hrel
           cases gk with
           | zero => exact absurd HA.out (by simp [spec_StateOK.l2])
           | succ k4 =>
            have H := HA.out
            clear HA
            simp only [spec_StateOK.l2] at H
            by_cases c141 : x12_4 < 3
            ·rw [if_pos c141] at H
             have c141b0 : decide (x12_4 < 3) = true := decide_eq_true c141
             clear c141
             by_cases c142 : 0 ≤ x12_4
             ·rw [if_pos c142] at H
              have c142b0 : decide (0 ≤ x12_4) = true := decide_eq_true c142
              clear c142
              replace H := Option.bind_eq_some_iff.mp H
              obtain ⟨t251,A1430,H⟩ := H
              try dsimp only at H
              have A143 := Aside0.mk A1430
              clear A1430
              by_cases c144 : t251 = true
              ·subst c144
               rw [if_pos rfl] at H
               by_cases c145 : (at3 x12_4 a0_7 a0_8 a0_9) = (at3 x12_4 x222000_2 x222001_2 x222002_2)
               ·rw [if_pos c145] at H
                have c145b0 : ((at3 x12_4 a0_7 a0_8 a0_9) == (at3 x12_4 x222000_2 x222001_2 x222002_2)) = true := beq_iff_eq.mpr c145
                have c145b1 : ((at3 x12_4 a0_7 a0_8 a0_9) != (at3 x12_4 x222000_2 x222001_2 x222002_2)) = false := bne_eq_false_iff_eq.mpr c145
                clear c145
                have H' := Aside0.mk H
                clear H
                try go_wp2
                have n0_ := Aside0.mk (blk_drew BK218.out)
                have n1_ := Aside0.mk (blk_drew BK221.out)
                have n2_ := Aside0.mk (below_drew1 HB.out)
                clear BK218
                clear BK221
                clear HB
                have BK218 := n0_
                have BK221 := n1_
                have HB := n2_
                clear n0_ n1_ n2_
                have hia147 := ia_dyn (P:=Tryd.prog) (t:=24) (e:=3) Tryd.underlying24 (by kernel_rfl) (by kernel_rfl) gb218 4 x12_4 (od) (od)
                refine start_ (n:=16) (S:=fun w' => w'.cell? ⟨gb218,0,none⟩ = some (.int .i64 a0_0) ∧ w'.cell? ⟨gb218,1,none⟩ = some (.int .i64 a0_1) ∧ w'.cell? ⟨gb218,2,none⟩ = some (.slice A0_2 l0_2.length c0_2) ∧ w'.cell? ⟨gb218,3,none⟩ = some (.slice A0_3 l0_3.length c0_3) ∧ w'.cell? ⟨gb218,4,none⟩ = some (.int .i64 a0_4) ∧ w'.cell? ⟨gb218,5,none⟩ = some (.int .i64 a0_5) ∧ w'.cell? ⟨gb218,6,none⟩ = some (.int .i64 a0_6) ∧ w'.cell? ⟨gb218,7,none⟩ = some (.int .i64 a0_7) ∧ w'.cell? ⟨gb218,8,none⟩ = some (.int .i64 a0_8) ∧ w'.cell? ⟨gb218,9,none⟩ = some (.int .i64 a0_9) ∧ w'.cell? ⟨gb221,0,none⟩ = some (.int .i64 x222000_2) ∧ w'.cell? ⟨gb221,1,none⟩ = some (.int .i64 x222001_2) ∧ w'.cell? ⟨gb221,2,none⟩ = some (.int .i64 x222002_2) ∧ w'.cell? ⟨gb218,4 + x12_4.toNat,none⟩ = some (.int .i64 (at3 x12_4 a0_4 a0_5 a0_6)) ∧ w'.cell? ⟨gb218,7 + x12_4.toNat,none⟩ = some (.int .i64 (at3 x12_4 a0_7 a0_8 a0_9)) ∧ w'.cell? ⟨gb221,x12_4.toNat,none⟩ = some (.int .i64 (at3 x12_4 x222000_2 x222001_2 x222002_2))) (ds := []) (bm 16 0) (by kernel_rfl) rfl rfl ⟨(blk_cell BK218.out 0).trans rfl,(blk_cell BK218.out 1).trans rfl,(blk_cell BK218.out 2).trans rfl,(blk_cell BK218.out 3).trans rfl,(blk_cell BK218.out 4).trans rfl,(blk_cell BK218.out 5).trans rfl,(blk_cell BK218.out 6).trans rfl,(blk_cell BK218.out 7).trans rfl,(blk_cell BK218.out 8).trans rfl,(blk_cell BK218.out 9).trans rfl,(blk_cell BK221.out 0).trans rfl,(blk_cell BK221.out 1).trans rfl,(blk_cell BK221.out 2).trans rfl,at3_cell (od) (od) ((blk_cell BK218.out 4).trans rfl) ((blk_cell BK218.out 5).trans rfl) ((blk_cell BK218.out 6).trans rfl),at3_cell (od) (od) ((blk_cell BK218.out 7).trans rfl) ((blk_cell BK218.out 8).trans rfl) ((blk_cell BK218.out 9).trans rfl),at3_cell0 (od) (od) ((blk_cell BK221.out 0).trans rfl) ((blk_cell BK221.out 1).trans rfl) ((blk_cell BK221.out 2).trans rfl)⟩ (fun hHeld => ?_); refine with_tabW spec_StateOK.tab23 spec_StateOK.bits23 (fun HT_ HW_ => ?_)
                generalize wr.drew = w146 at BK218 BK221 HB hHeld ⊢
                refine pV_ 0 140 (bm 16 1) HT_.out ?_
                refine pV_ 1 141 (bm 16 3) HT_.out ?_
                refine pV_ 2 142 (bm 16 7) HT_.out ?_
                refine take_ (i:=3) (N:=some 143) (v:=?_) (a':=?_) (bm 16 15) rfl rfl (take_ofW HT_.out HW_.out (by kernel_rfl)) (fun _ _ _ h => h) (Or.inl ⟨by rfl,?_⟩) hHeld ?_ ?_
                rotate_left
                ·rintro w' ⟨s0,s1,s2,s3,s4,s5,s6,s7,s8,s9,s10,s11,s12,s13,s14,s15⟩
                 go_simp
                 with_reducible rfl
                rotate_left
                ·simp only [Act.put,setIfInBounds_toArray,set_cons_zero,set_cons_succ,i64_w,i32_w]
                 rfl
                refine one_ (i:=4) (N:=some 144) (bm 16 31) rfl rfl (one_of HT_.out (by kernel_rfl)) (by decide) (fun K hK => ?_)
                refine goes_ Tryd.func18 (by kernel_rfl) rfl #[.int .i64 (at3 x12_4 a0_4 a0_5 a0_6),.int .i64 0,.int .i64 100000] (by rfl) rfl rfl mA ?_
                with_reducible refine (spec_l01In.calls (at3 x12_4 a0_4 a0_5 a0_6) 0 100000 true _ A143.out).mono ?_
                rintro e w' ⟨rfl,⟨nd,rfl⟩⟩
                refine ⟨_,rfl,?_⟩
                have hia148 := ia_dyn (P:=Tryd.prog) (t:=24) (e:=3) Tryd.underlying24 (by kernel_rfl) (by kernel_rfl) gb218 7 x12_4 (od) (od)
                have hia149 := ia_dyn0 (P:=Tryd.prog) (t:=24) (e:=3) Tryd.underlying24 (by kernel_rfl) (by kernel_rfl) gb221 x12_4 (od) (od)
                refine hK.out _ _ ⟨(blk_cell BK218.out 0).trans rfl,(blk_cell BK218.out 1).trans rfl,(blk_cell BK218.out 2).trans rfl,(blk_cell BK218.out 3).trans rfl,(blk_cell BK218.out 4).trans rfl,(blk_cell BK218.out 5).trans rfl,(blk_cell BK218.out 6).trans rfl,(blk_cell BK218.out 7).trans rfl,(blk_cell BK218.out 8).trans rfl,(blk_cell BK218.out 9).trans rfl,(blk_cell BK221.out 0).trans rfl,(blk_cell BK221.out 1).trans rfl,(blk_cell BK221.out 2).trans rfl,at3_cell (od) (od) ((blk_cell BK218.out 4).trans rfl) ((blk_cell BK218.out 5).trans rfl) ((blk_cell BK218.out 6).trans rfl),at3_cell (od) (od) ((blk_cell BK218.out 7).trans rfl) ((blk_cell BK218.out 8).trans rfl) ((blk_cell BK218.out 9).trans rfl),at3_cell0 (od) (od) ((blk_cell BK221.out 0).trans rfl) ((blk_cell BK221.out 1).trans rfl) ((blk_cell BK221.out 2).trans rfl)⟩ (fun hHeld => ?_)
                clear hK K
                refine norm_ (a':=?_) ?_ ?_
                rotate_left
                ·show Act.put _ (some 144) _ = _
                 simp only [Act.put,setIfInBounds_toArray,set_cons_zero,set_cons_succ,i64_w,i32_w]
                 rfl
                refine pV_ 5 145 (bm 16 63) HT_.out ?_
                refine pV_ 6 146 (bm 16 127) HT_.out ?_
                refine pV_ 7 147 (bm 16 255) HT_.out ?_
                refine pV_ 8 148 (bm 16 511) HT_.out ?_
                refine pV_ 9 149 (bm 16 1023) HT_.out ?_
                refine pV_ 11 151 (bm 16 3071) HT_.out ?_
                refine pV_ 12 152 (bm 16 7167) HT_.out ?_
                refine take_ (i:=10) (N:=some 150) (v:=?_) (a':=?_) (bm 16 8191) rfl rfl (take_ofW HT_.out HW_.out (by kernel_rfl)) (fun _ _ _ h => h) (Or.inl ⟨by rfl,?_⟩) hHeld ?_ ?_
                rotate_left
                ·rintro w' ⟨s0,s1,s2,s3,s4,s5,s6,s7,s8,s9,s10,s11,s12,s13,s14,s15⟩
                 go_simp
                 with_reducible rfl
                rotate_left
                ·simp only [Act.put,setIfInBounds_toArray,set_cons_zero,set_cons_succ,i64_w,i32_w]
                 rfl
                refine take_ (i:=13) (N:=some 153) (v:=?_) (a':=?_) (bm 16 16383) rfl rfl (take_ofW HT_.out HW_.out (by kernel_rfl)) (fun _ _ _ h => h) (Or.inl ⟨by rfl,?_⟩) hHeld ?_ ?_
                rotate_left
                ·rintro w' ⟨s0,s1,s2,s3,s4,s5,s6,s7,s8,s9,s10,s11,s12,s13,s14,s15⟩
                 go_simp
                 with_reducible rfl
                rotate_left
                ·simp only [Act.put,setIfInBounds_toArray,set_cons_zero,set_cons_succ,i64_w,i32_w]
                 rfl
                refine pV_ 14 154 (bm 16 32767) HT_.out ?_
                refine pV_ 15 155 (bm 16 65535) HT_.out ?_
                refine done_ (done_of HT_.out (by kernel_rfl)) ?_
                try go_wp2
                go_roundg k4
                case measure => have := HJ1.out; have := HK2.out; have := HK3.out; have := HK4.out; omega
                case rel => exact ⟨(wrap64 (x12_4 + 1)),(by first | rfl | (simp; done) | (simp [*]; done)),H',⟨by have := HJ1.out; have := HK2.out; have := HK3.out; have := HK4.out; omega⟩,⟨kA BK218.out⟩,⟨kA BK221.out⟩,⟨bA⟩⟩
               ·rw [if_neg c145] at H
                have c145b0 : ((at3 x12_4 a0_7 a0_8 a0_9) == (at3 x12_4 x222000_2 x222001_2 x222002_2)) = false := beq_eq_false_iff_ne.mpr c145
                have c145b1 : ((at3 x12_4 a0_7 a0_8 a0_9) != (at3 x12_4 x222000_2 x222001_2 x222002_2)) = true := bne_iff_ne.mpr c145
                obtain rfl := Option.some.inj H
                try go_wp2
                have n0_ := Aside0.mk (blk_drew BK218.out)
                have n1_ := Aside0.mk (blk_drew BK221.out)
                have n2_ := Aside0.mk (below_drew1 HB.out)
                clear BK218
                clear BK221
                clear HB
                have BK218 := n0_
                have BK221 := n1_
                have HB := n2_
                clear n0_ n1_ n2_
                have hia151 := ia_dyn (P:=Tryd.prog) (t:=24) (e:=3) Tryd.underlying24 (by kernel_rfl) (by kernel_rfl) gb218 4 x12_4 (od) (od)
                refine start_ (n:=16) (S:=fun w' => w'.cell? ⟨gb218,0,none⟩ = some (.int .i64 a0_0) ∧ w'.cell? ⟨gb218,1,none⟩ = some (.int .i64 a0_1) ∧ w'.cell? ⟨gb218,2,none⟩ = some (.slice A0_2 l0_2.length c0_2) ∧ w'.cell? ⟨gb218,3,none⟩ = some (.slice A0_3 l0_3.length c0_3) ∧ w'.cell? ⟨gb218,4,none⟩ = some (.int .i64 a0_4) ∧ w'.cell? ⟨gb218,5,none⟩ = some (.int .i64 a0_5) ∧ w'.cell? ⟨gb218,6,none⟩ = some (.int .i64 a0_6) ∧ w'.cell? ⟨gb218,7,none⟩ = some (.int .i64 a0_7) ∧ w'.cell? ⟨gb218,8,none⟩ = some (.int .i64 a0_8) ∧ w'.cell? ⟨gb218,9,none⟩ = some (.int .i64 a0_9) ∧ w'.cell? ⟨gb221,0,none⟩ = some (.int .i64 x222000_2) ∧ w'.cell? ⟨gb221,1,none⟩ = some (.int .i64 x222001_2) ∧ w'.cell? ⟨gb221,2,none⟩ = some (.int .i64 x222002_2) ∧ w'.cell? ⟨gb218,4 + x12_4.toNat,none⟩ = some (.int .i64 (at3 x12_4 a0_4 a0_5 a0_6)) ∧ w'.cell? ⟨gb218,7 + x12_4.toNat,none⟩ = some (.int .i64 (at3 x12_4 a0_7 a0_8 a0_9)) ∧ w'.cell? ⟨gb221,x12_4.toNat,none⟩ = some (.int .i64 (at3 x12_4 x222000_2 x222001_2 x222002_2))) (ds := []) (bm 16 0) (by kernel_rfl) rfl rfl ⟨(blk_cell BK218.out 0).trans rfl,(blk_cell BK218.out 1).trans rfl,(blk_cell BK218.out 2).trans rfl,(blk_cell BK218.out 3).trans rfl,(blk_cell BK218.out 4).trans rfl,(blk_cell BK218.out 5).trans rfl,(blk_cell BK218.out 6).trans rfl,(blk_cell BK218.out 7).trans rfl,(blk_cell BK218.out 8).trans rfl,(blk_cell BK218.out 9).trans rfl,(blk_cell BK221.out 0).trans rfl,(blk_cell BK221.out 1).trans rfl,(blk_cell BK221.out 2).trans rfl,at3_cell (od) (od) ((blk_cell BK218.out 4).trans rfl) ((blk_cell BK218.out 5).trans rfl) ((blk_cell BK218.out 6).trans rfl),at3_cell (od) (od) ((blk_cell BK218.out 7).trans rfl) ((blk_cell BK218.out 8).trans rfl) ((blk_cell BK218.out 9).trans rfl),at3_cell0 (od) (od) ((blk_cell BK221.out 0).trans rfl) ((blk_cell BK221.out 1).trans rfl) ((blk_cell BK221.out 2).trans rfl)⟩ (fun hHeld => ?_); refine with_tabW spec_StateOK.tab23 spec_StateOK.bits23 (fun HT_ HW_ => ?_)
                generalize wr.drew = w150 at BK218 BK221 HB hHeld ⊢
                refine pV_ 0 140 (bm 16 1) HT_.out ?_
                refine pV_ 1 141 (bm 16 3) HT_.out ?_
                refine pV_ 2 142 (bm 16 7) HT_.out ?_
                refine take_ (i:=3) (N:=some 143) (v:=?_) (a':=?_) (bm 16 15) rfl rfl (take_ofW HT_.out HW_.out (by kernel_rfl)) (fun _ _ _ h => h) (Or.inl ⟨by rfl,?_⟩) hHeld ?_ ?_
                rotate_left
                ·rintro w' ⟨s0,s1,s2,s3,s4,s5,s6,s7,s8,s9,s10,s11,s12,s13,s14,s15⟩
                 go_simp
                 with_reducible rfl
                rotate_left
                ·simp only [Act.put,setIfInBounds_toArray,set_cons_zero,set_cons_succ,i64_w,i32_w]
                 rfl
                refine one_ (i:=4) (N:=some 144) (bm 16 31) rfl rfl (one_of HT_.out (by kernel_rfl)) (by decide) (fun K hK => ?_)
                refine goes_ Tryd.func18 (by kernel_rfl) rfl #[.int .i64 (at3 x12_4 a0_4 a0_5 a0_6),.int .i64 0,.int .i64 100000] (by rfl) rfl rfl mA ?_
                with_reducible refine (spec_l01In.calls (at3 x12_4 a0_4 a0_5 a0_6) 0 100000 true _ A143.out).mono ?_
                rintro e w' ⟨rfl,⟨nd,rfl⟩⟩
                refine ⟨_,rfl,?_⟩
                have hia152 := ia_dyn (P:=Tryd.prog) (t:=24) (e:=3) Tryd.underlying24 (by kernel_rfl) (by kernel_rfl) gb218 7 x12_4 (od) (od)
                have hia153 := ia_dyn0 (P:=Tryd.prog) (t:=24) (e:=3) Tryd.underlying24 (by kernel_rfl) (by kernel_rfl) gb221 x12_4 (od) (od)
                refine hK.out _ _ ⟨(blk_cell BK218.out 0).trans rfl,(blk_cell BK218.out 1).trans rfl,(blk_cell BK218.out 2).trans rfl,(blk_cell BK218.out 3).trans rfl,(blk_cell BK218.out 4).trans rfl,(blk_cell BK218.out 5).trans rfl,(blk_cell BK218.out 6).trans rfl,(blk_cell BK218.out 7).trans rfl,(blk_cell BK218.out 8).trans rfl,(blk_cell BK218.out 9).trans rfl,(blk_cell BK221.out 0).trans rfl,(blk_cell BK221.out 1).trans rfl,(blk_cell BK221.out 2).trans rfl,at3_cell (od) (od) ((blk_cell BK218.out 4).trans rfl) ((blk_cell BK218.out 5).trans rfl) ((blk_cell BK218.out 6).trans rfl),at3_cell (od) (od) ((blk_cell BK218.out 7).trans rfl) ((blk_cell BK218.out 8).trans rfl) ((blk_cell BK218.out 9).trans rfl),at3_cell0 (od) (od) ((blk_cell BK221.out 0).trans rfl) ((blk_cell BK221.out 1).trans rfl) ((blk_cell BK221.out 2).trans rfl)⟩ (fun hHeld => ?_)
                clear hK K
                refine norm_ (a':=?_) ?_ ?_
                rotate_left
                ·show Act.put _ (some 144) _ = _
                 simp only [Act.put,setIfInBounds_toArray,set_cons_zero,set_cons_succ,i64_w,i32_w]
                 rfl
                refine pV_ 5 145 (bm 16 63) HT_.out ?_
                refine pV_ 6 146 (bm 16 127) HT_.out ?_
                refine pV_ 7 147 (bm 16 255) HT_.out ?_
                refine pV_ 8 148 (bm 16 511) HT_.out ?_
                refine pV_ 9 149 (bm 16 1023) HT_.out ?_
                refine pV_ 11 151 (bm 16 3071) HT_.out ?_
                refine pV_ 12 152 (bm 16 7167) HT_.out ?_
                refine take_ (i:=10) (N:=some 150) (v:=?_) (a':=?_) (bm 16 8191) rfl rfl (take_ofW HT_.out HW_.out (by kernel_rfl)) (fun _ _ _ h => h) (Or.inl ⟨by rfl,?_⟩) hHeld ?_ ?_
                rotate_left
                ·rintro w' ⟨s0,s1,s2,s3,s4,s5,s6,s7,s8,s9,s10,s11,s12,s13,s14,s15⟩
                 go_simp
                 with_reducible rfl
                rotate_left
                ·simp only [Act.put,setIfInBounds_toArray,set_cons_zero,set_cons_succ,i64_w,i32_w]
                 rfl
                refine take_ (i:=13) (N:=some 153) (v:=?_) (a':=?_) (bm 16 16383) rfl rfl (take_ofW HT_.out HW_.out (by kernel_rfl)) (fun _ _ _ h => h) (Or.inl ⟨by rfl,?_⟩) hHeld ?_ ?_
                rotate_left
                ·rintro w' ⟨s0,s1,s2,s3,s4,s5,s6,s7,s8,s9,s10,s11,s12,s13,s14,s15⟩
                 go_simp
                 with_reducible rfl
                rotate_left
                ·simp only [Act.put,setIfInBounds_toArray,set_cons_zero,set_cons_succ,i64_w,i32_w]
                 rfl
                refine pV_ 14 154 (bm 16 32767) HT_.out ?_
                refine pV_ 15 155 (bm 16 65535) HT_.out ?_
                refine done_ (done_of HT_.out (by kernel_rfl)) ?_
                try go_wp2
                go_ret
                exact ⟨by first | rfl | (simp only [i64_w,i32_w] <;> rfl) | (simp [errW_none,errW_some] <;> rfl) | (simp [*,errW_none,errW_some] <;> rfl),bA⟩
              ·replace c144 := Bool.eq_false_iff.mpr c144
               subst c144
               rw [if_neg (show ¬ (false = true) by decide)] at H
               obtain rfl := Option.some.inj H
               try go_wp2
               have n0_ := Aside0.mk (blk_drew BK218.out)
               have n1_ := Aside0.mk (blk_drew BK221.out)
               have n2_ := Aside0.mk (below_drew1 HB.out)
               clear BK218
               clear BK221
               clear HB
               have BK218 := n0_
               have BK221 := n1_
               have HB := n2_
               clear n0_ n1_ n2_
               have hia155 := ia_dyn (P:=Tryd.prog) (t:=24) (e:=3) Tryd.underlying24 (by kernel_rfl) (by kernel_rfl) gb218 4 x12_4 (od) (od)
               refine start_ (n:=16) (S:=fun w' => w'.cell? ⟨gb218,0,none⟩ = some (.int .i64 a0_0) ∧ w'.cell? ⟨gb218,1,none⟩ = some (.int .i64 a0_1) ∧ w'.cell? ⟨gb218,2,none⟩ = some (.slice A0_2 l0_2.length c0_2) ∧ w'.cell? ⟨gb218,3,none⟩ = some (.slice A0_3 l0_3.length c0_3) ∧ w'.cell? ⟨gb218,4,none⟩ = some (.int .i64 a0_4) ∧ w'.cell? ⟨gb218,5,none⟩ = some (.int .i64 a0_5) ∧ w'.cell? ⟨gb218,6,none⟩ = some (.int .i64 a0_6) ∧ w'.cell? ⟨gb218,7,none⟩ = some (.int .i64 a0_7) ∧ w'.cell? ⟨gb218,8,none⟩ = some (.int .i64 a0_8) ∧ w'.cell? ⟨gb218,9,none⟩ = some (.int .i64 a0_9) ∧ w'.cell? ⟨gb218,4 + x12_4.toNat,none⟩ = some (.int .i64 (at3 x12_4 a0_4 a0_5 a0_6))) (ds := []) (bm 16 0) (by kernel_rfl) rfl rfl ⟨(blk_cell BK218.out 0).trans rfl,(blk_cell BK218.out 1).trans rfl,(blk_cell BK218.out 2).trans rfl,(blk_cell BK218.out 3).trans rfl,(blk_cell BK218.out 4).trans rfl,(blk_cell BK218.out 5).trans rfl,(blk_cell BK218.out 6).trans rfl,(blk_cell BK218.out 7).trans rfl,(blk_cell BK218.out 8).trans rfl,(blk_cell BK218.out 9).trans rfl,at3_cell (od) (od) ((blk_cell BK218.out 4).trans rfl) ((blk_cell BK218.out 5).trans rfl) ((blk_cell BK218.out 6).trans rfl)⟩ (fun hHeld => ?_); refine with_tabW spec_StateOK.tab23 spec_StateOK.bits23 (fun HT_ HW_ => ?_)
               generalize wr.drew = w154 at BK218 BK221 HB hHeld ⊢
               refine pV_ 0 140 (bm 16 1) HT_.out ?_
               refine pV_ 1 141 (bm 16 3) HT_.out ?_
               refine pV_ 2 142 (bm 16 7) HT_.out ?_
               refine take_ (i:=3) (N:=some 143) (v:=?_) (a':=?_) (bm 16 15) rfl rfl (take_ofW HT_.out HW_.out (by kernel_rfl)) (fun _ _ _ h => h) (Or.inl ⟨by rfl,?_⟩) hHeld ?_ ?_
               rotate_left
               ·rintro w' ⟨s0,s1,s2,s3,s4,s5,s6,s7,s8,s9,s10⟩
                go_simp
                with_reducible rfl
               rotate_left
               ·simp only [Act.put,setIfInBounds_toArray,set_cons_zero,set_cons_succ,i64_w,i32_w]
                rfl
               refine one_ (i:=4) (N:=some 144) (bm 16 31) rfl rfl (one_of HT_.out (by kernel_rfl)) (by decide) (fun K hK => ?_)
               refine goes_ Tryd.func18 (by kernel_rfl) rfl #[.int .i64 (at3 x12_4 a0_4 a0_5 a0_6),.int .i64 0,.int .i64 100000] (by rfl) rfl rfl mA ?_
               with_reducible refine (spec_l01In.calls (at3 x12_4 a0_4 a0_5 a0_6) 0 100000 false _ A143.out).mono ?_
               rintro e w' ⟨rfl,⟨nd,rfl⟩⟩
               refine ⟨_,rfl,?_⟩
               refine hK.out _ _ ⟨(blk_cell BK218.out 0).trans rfl,(blk_cell BK218.out 1).trans rfl,(blk_cell BK218.out 2).trans rfl,(blk_cell BK218.out 3).trans rfl,(blk_cell BK218.out 4).trans rfl,(blk_cell BK218.out 5).trans rfl,(blk_cell BK218.out 6).trans rfl,(blk_cell BK218.out 7).trans rfl,(blk_cell BK218.out 8).trans rfl,(blk_cell BK218.out 9).trans rfl,at3_cell (od) (od) ((blk_cell BK218.out 4).trans rfl) ((blk_cell BK218.out 5).trans rfl) ((blk_cell BK218.out 6).trans rfl)⟩ (fun hHeld => ?_)
               clear hK K
               refine norm_ (a':=?_) ?_ ?_
               rotate_left
               ·show Act.put _ (some 144) _ = _
                simp only [Act.put,setIfInBounds_toArray,set_cons_zero,set_cons_succ,i64_w,i32_w]
                rfl
               refine pV_ 5 145 (bm 16 63) HT_.out ?_
               refine pV_ 6 146 (bm 16 127) HT_.out ?_
               refine pU_ 7 147 (bm 16 255) HT_.out ?_
               refine pU_ 8 148 (bm 16 511) HT_.out ?_
               refine pU_ 9 149 (bm 16 1023) HT_.out ?_
               refine pU_ 10 150 (bm 16 2047) HT_.out ?_
               refine pU_ 11 151 (bm 16 4095) HT_.out ?_
               refine pU_ 12 152 (bm 16 8191) HT_.out ?_
               refine pU_ 13 153 (bm 16 16383) HT_.out ?_
               refine pU_ 14 154 (bm 16 32767) HT_.out ?_
               refine pV_ 15 155 (bm 16 65535) HT_.out ?_
               refine done_ (done_of HT_.out (by kernel_rfl)) ?_
               try go_wp2
               go_ret
               exact ⟨by first | rfl | (simp only [i64_w,i32_w] <;> rfl) | (simp [errW_none,errW_some] <;> rfl) | (simp [*,errW_none,errW_some] <;> rfl),bA⟩
             ·rw [if_neg c142] at H
              exact absurd H (by simp)
            ·rw [if_neg c141] at H
             have c141b0 : decide (x12_4 < 3) = false := decide_eq_false c141
             clear c141
             obtain rfl := Option.some.inj H
             go_wp2
             go_ret
             exact ⟨by first | rfl | (simp only [i64_w,i32_w] <;> rfl) | (simp [errW_none,errW_some] <;> rfl) | (simp [*,errW_none,errW_some] <;> rfl),bA⟩

end Go.Proofs.YtfondhlknkhmmaaDoor.XFnExactExpiredEntry
