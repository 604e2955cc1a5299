-- Printed by this session's own program wip/tools/xprint.py, which widens the kit's print. Not trusted: Lean checks it.
import Derived.Test.YteiolcfgaklafaaXFnExactSameStatex0
import Derived.Test.YteiolcfgaklafaaXFnExactSameStatex1
import Derived.Test.YteiolcfgaklafaaXFnExactSameStatex2
import Derived.Test.YteiolcfgaklafaaXFnExactSameStatex3
namespace Go.Proofs.Yteiolcfgaklafaa.XFnExactSameState
open List (setIfInBounds_toArray set_cons_zero set_cons_succ)
open Go.RowKit Go.Proofs.YteiolcfgaklafaaW.PrintWords Go.Proofs.YteiolcfgaklafaaW.PrintLast Go.Proofs.YteiolcfgaklafaaW.PrintMore
attribute [local go_sem] max2_int min2_int max_two min_two max_three min_three max_four min_four   -- for this text's walks alone
set_option linter.unusedVariables false
set_option linter.unusedSimpArgs false

attribute [local go_sem high] eqA80 eqA120 eqA126
/-! ### spec_SameState: function 42 -/
mutual
def spec_SameState.j0 : Nat → Bool → Int → Int → List (S120) → List (S126) → Int → Int → Int → Int → Int → Int → Int → Int → List (S120) → List (S126) → Int → Int → Int → Int → Int → Int → Option (Bool)
 | 0,_,_,_,_,_,_,_,_,_,_,_,_,_,_,_,_,_,_,_,_,_ => none
 | k + 1,x50,x111000,x111001,x111002,x111003,x111004,x111005,x111006,x111007,x111008,x111009,x112000,x112001,x112002,x112003,x112004,x112005,x112006,x112007,x112008,x112009 => if x50 = true then (some false) else (spec_SameState.l0 k 0 x111000 x111001 x111002 x111003 x111004 x111005 x111006 x111007 x111008 x111009 x112000 x112001 x112002 x112003 x112004 x112005 x112006 x112007 x112008 x112009)
def spec_SameState.l0 : Nat → Int → Int → Int → List (S120) → List (S126) → Int → Int → Int → Int → Int → Int → Int → Int → List (S120) → List (S126) → Int → Int → Int → Int → Int → Int → Option (Bool)
 | 0,_,_,_,_,_,_,_,_,_,_,_,_,_,_,_,_,_,_,_,_,_ => none
 | k + 1,x5,x111000,x111001,x111002,x111003,x111004,x111005,x111006,x111007,x111008,x111009,x112000,x112001,x112002,x112003,x112004,x112005,x112006,x112007,x112008,x112009 => if x5 < (x111002.length : Int) then (if 0 ≤ x5 then (if x5 < (x112002.length : Int) then (if (!(((rd_T120 x111002 x5).f0) == ((rd_T120 x112002 x5).f0)) || (!(((rd_T120 x111002 x5).f1) == ((rd_T120 x112002 x5).f1)) || (!(((rd_T120 x111002 x5).f2) == ((rd_T120 x112002 x5).f2)) || (!((((rd_T120 x111002 x5).f3).toList) == (((rd_T120 x112002 x5).f3).toList)))))) = true then (some false) else (spec_SameState.l0 k (wrap64 (x5 + 1)) x111000 x111001 x111002 x111003 x111004 x111005 x111006 x111007 x111008 x111009 x112000 x112001 x112002 x112003 x112004 x112005 x112006 x112007 x112008 x112009)) else (none)) else (none)) else (spec_SameState.l1 k 0 x111000 x111001 x111002 x111003 x111004 x111005 x111006 x111007 x111008 x111009 x112000 x112001 x112002 x112003 x112004 x112005 x112006 x112007 x112008 x112009)
def spec_SameState.l1 : Nat → Int → Int → Int → List (S120) → List (S126) → Int → Int → Int → Int → Int → Int → Int → Int → List (S120) → List (S126) → Int → Int → Int → Int → Int → Int → Option (Bool)
 | 0,_,_,_,_,_,_,_,_,_,_,_,_,_,_,_,_,_,_,_,_,_ => none
 | k + 1,x6,x111000,x111001,x111002,x111003,x111004,x111005,x111006,x111007,x111008,x111009,x112000,x112001,x112002,x112003,x112004,x112005,x112006,x112007,x112008,x112009 => if x6 < (x111003.length : Int) then (if 0 ≤ x6 then (if x6 < (x112003.length : Int) then (if (!(((rd_T126 x111003 x6).f0) == ((rd_T126 x112003 x6).f0)) || (!((((rd_T126 x111003 x6).f1).toList) == (((rd_T126 x112003 x6).f1).toList)))) = true then (some false) else (spec_SameState.l1 k (wrap64 (x6 + 1)) x111000 x111001 x111002 x111003 x111004 x111005 x111006 x111007 x111008 x111009 x112000 x112001 x112002 x112003 x112004 x112005 x112006 x112007 x112008 x112009)) else (none)) else (none)) else (some true)
end
def spec_SameState.f (k : Nat) (a0_0 : Int) (a0_1 : Int) (l0_2 : List (S120)) (l0_3 : List (S126)) (a0_4 : Int) (a0_5 : Int) (a0_6 : Int) (a0_7 : Int) (a0_8 : Int) (a0_9 : Int) (a1_0 : Int) (a1_1 : Int) (l1_2 : List (S120)) (l1_3 : List (S126)) (a1_4 : Int) (a1_5 : Int) (a1_6 : Int) (a1_7 : Int) (a1_8 : Int) (a1_9 : Int) : Option (Bool) := if a0_0 = a1_0 then (if a0_1 = a1_1 then (if (!(a0_4 == a1_4) || (!(a0_5 == a1_5) || (!(a0_6 == a1_6)))) = true then (spec_SameState.j0 k true a0_0 a0_1 l0_2 l0_3 a0_4 a0_5 a0_6 a0_7 a0_8 a0_9 a1_0 a1_1 l1_2 l1_3 a1_4 a1_5 a1_6 a1_7 a1_8 a1_9) else (if (!(a0_7 == a1_7) || (!(a0_8 == a1_8) || (!(a0_9 == a1_9)))) = true then (spec_SameState.j0 k true a0_0 a0_1 l0_2 l0_3 a0_4 a0_5 a0_6 a0_7 a0_8 a0_9 a1_0 a1_1 l1_2 l1_3 a1_4 a1_5 a1_6 a1_7 a1_8 a1_9) else (if (l0_2.length : Int) = (l1_2.length : Int) then (spec_SameState.j0 k ((l0_3.length : Int) != (l1_3.length : Int)) a0_0 a0_1 l0_2 l0_3 a0_4 a0_5 a0_6 a0_7 a0_8 a0_9 a1_0 a1_1 l1_2 l1_3 a1_4 a1_5 a1_6 a1_7 a1_8 a1_9) else (spec_SameState.j0 k true a0_0 a0_1 l0_2 l0_3 a0_4 a0_5 a0_6 a0_7 a0_8 a0_9 a1_0 a1_1 l1_2 l1_3 a1_4 a1_5 a1_6 a1_7 a1_8 a1_9)))) else (spec_SameState.j0 k true a0_0 a0_1 l0_2 l0_3 a0_4 a0_5 a0_6 a0_7 a0_8 a0_9 a1_0 a1_1 l1_2 l1_3 a1_4 a1_5 a1_6 a1_7 a1_8 a1_9)) else (spec_SameState.j0 k true a0_0 a0_1 l0_2 l0_3 a0_4 a0_5 a0_6 a0_7 a0_8 a0_9 a1_0 a1_1 l1_2 l1_3 a1_4 a1_5 a1_6 a1_7 a1_8 a1_9)
theorem spec_SameState.mono_l : ∀ k,(∀ y0 y1 y2 y3 y4 y5 y6 y7 y8 y9 y10 y11 y12 y13 y14 y15 y16 y17 y18 y19 y20,LeO (spec_SameState.j0 k y0 y1 y2 y3 y4 y5 y6 y7 y8 y9 y10 y11 y12 y13 y14 y15 y16 y17 y18 y19 y20) (spec_SameState.j0 (k + 1) y0 y1 y2 y3 y4 y5 y6 y7 y8 y9 y10 y11 y12 y13 y14 y15 y16 y17 y18 y19 y20)) ∧ (∀ y0 y1 y2 y3 y4 y5 y6 y7 y8 y9 y10 y11 y12 y13 y14 y15 y16 y17 y18 y19 y20,LeO (spec_SameState.l0 k y0 y1 y2 y3 y4 y5 y6 y7 y8 y9 y10 y11 y12 y13 y14 y15 y16 y17 y18 y19 y20) (spec_SameState.l0 (k + 1) y0 y1 y2 y3 y4 y5 y6 y7 y8 y9 y10 y11 y12 y13 y14 y15 y16 y17 y18 y19 y20)) ∧ (∀ y0 y1 y2 y3 y4 y5 y6 y7 y8 y9 y10 y11 y12 y13 y14 y15 y16 y17 y18 y19 y20,LeO (spec_SameState.l1 k y0 y1 y2 y3 y4 y5 y6 y7 y8 y9 y10 y11 y12 y13 y14 y15 y16 y17 y18 y19 y20) (spec_SameState.l1 (k + 1) y0 y1 y2 y3 y4 y5 y6 y7 y8 y9 y10 y11 y12 y13 y14 y15 y16 y17 y18 y19 y20))
 | 0 => ⟨fun _ _ _ _ _ _ _ _ _ _ _ _ _ _ _ _ _ _ _ _ _ r h => by simp [spec_SameState.j0] at h,fun _ _ _ _ _ _ _ _ _ _ _ _ _ _ _ _ _ _ _ _ _ r h => by simp [spec_SameState.l0] at h,fun _ _ _ _ _ _ _ _ _ _ _ _ _ _ _ _ _ _ _ _ _ r h => by simp [spec_SameState.l1] at h⟩
 | k + 1 => by
  obtain ⟨ih0,ih1,ih2⟩ := spec_SameState.mono_l k
  refine ⟨?_,?_,?_⟩
  ·intro y0 y1 y2 y3 y4 y5 y6 y7 y8 y9 y10 y11 y12 y13 y14 y15 y16 y17 y18 y19 y20
   unfold spec_SameState.j0
   repeat' first
   | (with_reducible exact ih0 _ _ _ _ _ _ _ _ _ _ _ _ _ _ _ _ _ _ _ _ _)
   | (with_reducible exact ih1 _ _ _ _ _ _ _ _ _ _ _ _ _ _ _ _ _ _ _ _ _)
   | (with_reducible exact ih2 _ _ _ _ _ _ _ _ _ _ _ _ _ _ _ _ _ _ _ _ _)
   | (with_reducible exact LeO.refl _)
   | (with_reducible exact LeO.none _)
   | (with_reducible refine LeO.ite ?_ ?_)
   | (with_reducible refine LeO.bind ?_ (fun _ => ?_))
   | exact ih0 _ _ _ _ _ _ _ _ _ _ _ _ _ _ _ _ _ _ _ _ _
   | exact ih1 _ _ _ _ _ _ _ _ _ _ _ _ _ _ _ _ _ _ _ _ _
   | exact ih2 _ _ _ _ _ _ _ _ _ _ _ _ _ _ _ _ _ _ _ _ _
   | exact LeO.none _
   | refine LeO.ite ?_ ?_
   | refine LeO.bind ?_ (fun _ => ?_)
  ·intro y0 y1 y2 y3 y4 y5 y6 y7 y8 y9 y10 y11 y12 y13 y14 y15 y16 y17 y18 y19 y20
   unfold spec_SameState.l0
   repeat' first
   | (with_reducible exact ih0 _ _ _ _ _ _ _ _ _ _ _ _ _ _ _ _ _ _ _ _ _)
   | (with_reducible exact ih1 _ _ _ _ _ _ _ _ _ _ _ _ _ _ _ _ _ _ _ _ _)
   | (with_reducible exact ih2 _ _ _ _ _ _ _ _ _ _ _ _ _ _ _ _ _ _ _ _ _)
   | (with_reducible exact LeO.refl _)
   | (with_reducible exact LeO.none _)
   | (with_reducible refine LeO.ite ?_ ?_)
   | (with_reducible refine LeO.bind ?_ (fun _ => ?_))
   | exact ih0 _ _ _ _ _ _ _ _ _ _ _ _ _ _ _ _ _ _ _ _ _
   | exact ih1 _ _ _ _ _ _ _ _ _ _ _ _ _ _ _ _ _ _ _ _ _
   | exact ih2 _ _ _ _ _ _ _ _ _ _ _ _ _ _ _ _ _ _ _ _ _
   | exact LeO.none _
   | refine LeO.ite ?_ ?_
   | refine LeO.bind ?_ (fun _ => ?_)
  ·intro y0 y1 y2 y3 y4 y5 y6 y7 y8 y9 y10 y11 y12 y13 y14 y15 y16 y17 y18 y19 y20
   unfold spec_SameState.l1
   repeat' first
   | (with_reducible exact ih0 _ _ _ _ _ _ _ _ _ _ _ _ _ _ _ _ _ _ _ _ _)
   | (with_reducible exact ih1 _ _ _ _ _ _ _ _ _ _ _ _ _ _ _ _ _ _ _ _ _)
   | (with_reducible exact ih2 _ _ _ _ _ _ _ _ _ _ _ _ _ _ _ _ _ _ _ _ _)
   | (with_reducible exact LeO.refl _)
   | (with_reducible exact LeO.none _)
   | (with_reducible refine LeO.ite ?_ ?_)
   | (with_reducible refine LeO.bind ?_ (fun _ => ?_))
   | exact ih0 _ _ _ _ _ _ _ _ _ _ _ _ _ _ _ _ _ _ _ _ _
   | exact ih1 _ _ _ _ _ _ _ _ _ _ _ _ _ _ _ _ _ _ _ _ _
   | exact ih2 _ _ _ _ _ _ _ _ _ _ _ _ _ _ _ _ _ _ _ _ _
   | exact LeO.none _
   | refine LeO.ite ?_ ?_
   | refine LeO.bind ?_ (fun _ => ?_)
theorem spec_SameState.mono : ∀ a0 a1 a2 a3 a4 a5 a6 a7 a8 a9 a10 a11 a12 a13 a14 a15 a16 a17 a18 a19 k,LeO (spec_SameState.f k a0 a1 a2 a3 a4 a5 a6 a7 a8 a9 a10 a11 a12 a13 a14 a15 a16 a17 a18 a19) (spec_SameState.f (k + 1) a0 a1 a2 a3 a4 a5 a6 a7 a8 a9 a10 a11 a12 a13 a14 a15 a16 a17 a18 a19) := by
 intro a0 a1 a2 a3 a4 a5 a6 a7 a8 a9 a10 a11 a12 a13 a14 a15 a16 a17 a18 a19 k
 obtain ⟨ih0,ih1,ih2⟩ := spec_SameState.mono_l k
 unfold spec_SameState.f
 repeat' first
   | (with_reducible exact ih0 _ _ _ _ _ _ _ _ _ _ _ _ _ _ _ _ _ _ _ _ _)
   | (with_reducible exact ih1 _ _ _ _ _ _ _ _ _ _ _ _ _ _ _ _ _ _ _ _ _)
   | (with_reducible exact ih2 _ _ _ _ _ _ _ _ _ _ _ _ _ _ _ _ _ _ _ _ _)
   | (with_reducible exact LeO.refl _)
   | (with_reducible exact LeO.none _)
   | (with_reducible refine LeO.ite ?_ ?_)
   | (with_reducible refine LeO.bind ?_ (fun _ => ?_))
   | exact ih0 _ _ _ _ _ _ _ _ _ _ _ _ _ _ _ _ _ _ _ _ _
   | exact ih1 _ _ _ _ _ _ _ _ _ _ _ _ _ _ _ _ _ _ _ _ _
   | exact ih2 _ _ _ _ _ _ _ _ _ _ _ _ _ _ _ _ _ _ _ _ _
   | exact LeO.none _
   | refine LeO.ite ?_ ?_
   | refine LeO.bind ?_ (fun _ => ?_)
set_option maxHeartbeats 8000000 in
set_option maxRecDepth 100000 in
theorem spec_SameState.calls (k : Nat) (a0_0 : Int) (a0_1 : Int) (A0_2 : Option Addr) (c0_2 : Nat) (l0_2 : List (S120)) (A0_3 : Option Addr) (c0_3 : Nat) (l0_3 : List (S126)) (a0_4 : Int) (a0_5 : Int) (a0_6 : Int) (a0_7 : Int) (a0_8 : Int) (a0_9 : Int) (a1_0 : Int) (a1_1 : Int) (A1_2 : Option Addr) (c1_2 : Nat) (l1_2 : List (S120)) (A1_3 : Option Addr) (c1_3 : Nat) (l1_3 : List (S126)) (a1_4 : Int) (a1_5 : Int) (a1_6 : Int) (a1_7 : Int) (a1_8 : Int) (a1_9 : Int) (r : Bool) (w : World) (hr0_2 : Kd.C k120 w A0_2 l0_2.length l0_2) (hc0_2 : l0_2.length ≤ c0_2) (hr0_3 : Kd.C k126 w A0_3 l0_3.length l0_3) (hc0_3 : l0_3.length ≤ c0_3) (hr1_2 : Kd.C k120 w A1_2 l1_2.length l1_2) (hc1_2 : l1_2.length ≤ c1_2) (hr1_3 : Kd.C k126 w A1_3 l1_3.length l1_3) (hc1_3 : l1_3.length ≤ c1_3) (h : spec_SameState.f k a0_0 a0_1 l0_2 l0_3 a0_4 a0_5 a0_6 a0_7 a0_8 a0_9 a1_0 a1_1 l1_2 l1_3 a1_4 a1_5 a1_6 a1_7 a1_8 a1_9 = some r) :
  Calls Try.prog 42 #[.agg #[.int .i64 a0_0,.int .i64 a0_1,.slice A0_2 l0_2.length c0_2,.slice A0_3 l0_3.length c0_3,.int .i64 a0_4,.int .i64 a0_5,.int .i64 a0_6,.int .i64 a0_7,.int .i64 a0_8,.int .i64 a0_9],.agg #[.int .i64 a1_0,.int .i64 a1_1,.slice A1_2 l1_2.length c1_2,.slice A1_3 l1_3.length c1_3,.int .i64 a1_4,.int .i64 a1_5,.int .i64 a1_6,.int .i64 a1_7,.int .i64 a1_8,.int .i64 a1_9]] w fun e w' => e = .returned (.bool r) ∧ Below w.heap.size w w' := by
 have hu87 := Try.underlying87
 have hu80 := Try.underlying80
 have hu120 := Try.underlying120
 have hu126 := Try.underlying126
 have HR0_2 := Aside0.mk hr0_2
 have HC0_2 := Aside0.mk hc0_2
 clear hr0_2 hc0_2
 have HR0_3 := Aside0.mk hr0_3
 have HC0_3 := Aside0.mk hc0_3
 clear hr0_3 hc0_3
 have HR1_2 := Aside0.mk hr1_2
 have HC1_2 := Aside0.mk hc1_2
 clear hr1_2 hc1_2
 have HR1_3 := Aside0.mk hr1_3
 have HC1_3 := Aside0.mk hc1_3
 clear hr1_3 hc1_3
 have HB := Aside0.mk (Below.refl w.heap.size w)
 have H : (if a0_0 = a1_0 then (if a0_1 = a1_1 then (if (!(a0_4 == a1_4) || (!(a0_5 == a1_5) || (!(a0_6 == a1_6)))) = true then (spec_SameState.j0 k true a0_0 a0_1 l0_2 l0_3 a0_4 a0_5 a0_6 a0_7 a0_8 a0_9 a1_0 a1_1 l1_2 l1_3 a1_4 a1_5 a1_6 a1_7 a1_8 a1_9) else (if (!(a0_7 == a1_7) || (!(a0_8 == a1_8) || (!(a0_9 == a1_9)))) = true then (spec_SameState.j0 k true a0_0 a0_1 l0_2 l0_3 a0_4 a0_5 a0_6 a0_7 a0_8 a0_9 a1_0 a1_1 l1_2 l1_3 a1_4 a1_5 a1_6 a1_7 a1_8 a1_9) else (if (l0_2.length : Int) = (l1_2.length : Int) then (spec_SameState.j0 k ((l0_3.length : Int) != (l1_3.length : Int)) a0_0 a0_1 l0_2 l0_3 a0_4 a0_5 a0_6 a0_7 a0_8 a0_9 a1_0 a1_1 l1_2 l1_3 a1_4 a1_5 a1_6 a1_7 a1_8 a1_9) else (spec_SameState.j0 k true a0_0 a0_1 l0_2 l0_3 a0_4 a0_5 a0_6 a0_7 a0_8 a0_9 a1_0 a1_1 l1_2 l1_3 a1_4 a1_5 a1_6 a1_7 a1_8 a1_9)))) else (spec_SameState.j0 k true a0_0 a0_1 l0_2 l0_3 a0_4 a0_5 a0_6 a0_7 a0_8 a0_9 a1_0 a1_1 l1_2 l1_3 a1_4 a1_5 a1_6 a1_7 a1_8 a1_9)) else (spec_SameState.j0 k true a0_0 a0_1 l0_2 l0_3 a0_4 a0_5 a0_6 a0_7 a0_8 a0_9 a1_0 a1_1 l1_2 l1_3 a1_4 a1_5 a1_6 a1_7 a1_8 a1_9)) = some r := h
 clear h
 have HC3 := Aside0.mk H
 clear H
 go_enter Try.func42,Try.ntmps42
 go_upto_region 1 with (first | ((with_reducible refine gate_dst (N:=2) rfl ?_); (try (refine gate_guard (by rfl) ?_; dsimp only)); refine box_event ?hg (N:=2) ?hd (cs := #[.int .i64 a0_0,.int .i64 a0_1,.slice A0_2 l0_2.length c0_2,.slice A0_3 l0_3.length c0_3,.int .i64 a0_4,.int .i64 a0_5,.int .i64 a0_6,.int .i64 a0_7,.int .i64 a0_8,.int .i64 a0_9]) (t:=87) ?hr ?_; (case hd => rfl); (case hg => rfl); (case hr => first | (go_simp; done) | (go_simp; rfl)); intro gb110 hg w4 hbox hb; have n0_ := Aside0.mk (below_step bA hb); have n1_ := Aside0.mk (hbox); have n2_ := Aside0.mk ((by rw [hg]; exact (below_size bA) : w.heap.size ≤ gb110)); have n3_ := Aside0.mk ((by rw [hg]; exact (below_size bA) : w.heap.size ≤ gb110)); clear HB; have HB := n0_; have BK110 := n1_; have GW110 := n2_; have GE110 := n3_; clear n0_ n1_ n2_ n3_; clear hb hbox hg) | ((with_reducible refine gate_dst (N:=3) rfl ?_); (try (refine gate_guard (by rfl) ?_; dsimp only)); refine box_event ?hg (N:=3) ?hd (cs := #[.int .i64 a1_0,.int .i64 a1_1,.slice A1_2 l1_2.length c1_2,.slice A1_3 l1_3.length c1_3,.int .i64 a1_4,.int .i64 a1_5,.int .i64 a1_6,.int .i64 a1_7,.int .i64 a1_8,.int .i64 a1_9]) (t:=87) ?hr ?_; (case hd => rfl); (case hg => rfl); (case hr => first | (go_simp; done) | (go_simp; rfl)); intro gb111 hg w5 hbox hb; have n0_ := Aside0.mk (blk_below (g:=gb110) (o:=.cells #[.int .i64 a0_0,.int .i64 a0_1,.slice A0_2 l0_2.length c0_2,.slice A0_3 l0_3.length c0_3,.int .i64 a0_4,.int .i64 a0_5,.int .i64 a0_6,.int .i64 a0_7,.int .i64 a0_8,.int .i64 a0_9] 87 (0,0)) (kA BK110.out) hb); have n1_ := Aside0.mk (below_step bA hb); have n2_ := Aside0.mk (hbox); have n3_ := Aside0.mk ((by rw [hg]; exact (below_size bA) : w.heap.size ≤ gb111)); have n4_ := Aside0.mk ((by rw [hg]; exact (below_size bA) : w.heap.size ≤ gb111)); have n5_ := Aside0.mk ((by rw [hg]; exact Nat.ne_of_lt (blk_lt (g:=gb110) (o:=.cells #[.int .i64 a0_0,.int .i64 a0_1,.slice A0_2 l0_2.length c0_2,.slice A0_3 l0_3.length c0_3,.int .i64 a0_4,.int .i64 a0_5,.int .i64 a0_6,.int .i64 a0_7,.int .i64 a0_8,.int .i64 a0_9] 87 (0,0)) (kA BK110.out)) : gb110 ≠ gb111)); have n6_ := Aside0.mk ((by rw [hg]; exact Nat.ne_of_gt (blk_lt (g:=gb110) (o:=.cells #[.int .i64 a0_0,.int .i64 a0_1,.slice A0_2 l0_2.length c0_2,.slice A0_3 l0_3.length c0_3,.int .i64 a0_4,.int .i64 a0_5,.int .i64 a0_6,.int .i64 a0_7,.int .i64 a0_8,.int .i64 a0_9] 87 (0,0)) (kA BK110.out)) : gb111 ≠ gb110)); clear BK110; clear HB; have BK110 := n0_; have HB := n1_; have BK111 := n2_; have GW111 := n3_; have GE111 := n4_; have NB110_111 := n5_; have NB111_110 := n6_; clear n0_ n1_ n2_ n3_ n4_ n5_ n6_; clear hb hbox hg))
 repeat (go_quiet (first | ((with_reducible refine gate_dst (N:=2) rfl ?_); (try (refine gate_guard (by rfl) ?_; dsimp only)); refine box_event ?hg (N:=2) ?hd (cs := #[.int .i64 a0_0,.int .i64 a0_1,.slice A0_2 l0_2.length c0_2,.slice A0_3 l0_3.length c0_3,.int .i64 a0_4,.int .i64 a0_5,.int .i64 a0_6,.int .i64 a0_7,.int .i64 a0_8,.int .i64 a0_9]) (t:=87) ?hr ?_; (case hd => rfl); (case hg => rfl); (case hr => first | (go_simp; done) | (go_simp; rfl)); intro gb110 hg w4 hbox hb; have n0_ := Aside0.mk (below_step bA hb); have n1_ := Aside0.mk (hbox); have n2_ := Aside0.mk ((by rw [hg]; exact (below_size bA) : w.heap.size ≤ gb110)); have n3_ := Aside0.mk ((by rw [hg]; exact (below_size bA) : w.heap.size ≤ gb110)); clear HB; have HB := n0_; have BK110 := n1_; have GW110 := n2_; have GE110 := n3_; clear n0_ n1_ n2_ n3_; clear hb hbox hg) | ((with_reducible refine gate_dst (N:=3) rfl ?_); (try (refine gate_guard (by rfl) ?_; dsimp only)); refine box_event ?hg (N:=3) ?hd (cs := #[.int .i64 a1_0,.int .i64 a1_1,.slice A1_2 l1_2.length c1_2,.slice A1_3 l1_3.length c1_3,.int .i64 a1_4,.int .i64 a1_5,.int .i64 a1_6,.int .i64 a1_7,.int .i64 a1_8,.int .i64 a1_9]) (t:=87) ?hr ?_; (case hd => rfl); (case hg => rfl); (case hr => first | (go_simp; done) | (go_simp; rfl)); intro gb111 hg w5 hbox hb; have n0_ := Aside0.mk (blk_below (g:=gb110) (o:=.cells #[.int .i64 a0_0,.int .i64 a0_1,.slice A0_2 l0_2.length c0_2,.slice A0_3 l0_3.length c0_3,.int .i64 a0_4,.int .i64 a0_5,.int .i64 a0_6,.int .i64 a0_7,.int .i64 a0_8,.int .i64 a0_9] 87 (0,0)) (kA BK110.out) hb); have n1_ := Aside0.mk (below_step bA hb); have n2_ := Aside0.mk (hbox); have n3_ := Aside0.mk ((by rw [hg]; exact (below_size bA) : w.heap.size ≤ gb111)); have n4_ := Aside0.mk ((by rw [hg]; exact (below_size bA) : w.heap.size ≤ gb111)); have n5_ := Aside0.mk ((by rw [hg]; exact Nat.ne_of_lt (blk_lt (g:=gb110) (o:=.cells #[.int .i64 a0_0,.int .i64 a0_1,.slice A0_2 l0_2.length c0_2,.slice A0_3 l0_3.length c0_3,.int .i64 a0_4,.int .i64 a0_5,.int .i64 a0_6,.int .i64 a0_7,.int .i64 a0_8,.int .i64 a0_9] 87 (0,0)) (kA BK110.out)) : gb110 ≠ gb111)); have n6_ := Aside0.mk ((by rw [hg]; exact Nat.ne_of_gt (blk_lt (g:=gb110) (o:=.cells #[.int .i64 a0_0,.int .i64 a0_1,.slice A0_2 l0_2.length c0_2,.slice A0_3 l0_3.length c0_3,.int .i64 a0_4,.int .i64 a0_5,.int .i64 a0_6,.int .i64 a0_7,.int .i64 a0_8,.int .i64 a0_9] 87 (0,0)) (kA BK110.out)) : gb111 ≠ gb110)); clear BK110; clear HB; have BK110 := n0_; have HB := n1_; have BK111 := n2_; have GW111 := n3_; have GE111 := n4_; have NB110_111 := n5_; have NB111_110 := n6_; clear n0_ n1_ n2_ n3_ n4_ n5_ n6_; clear hb hbox hg)); go_upto_region 1 with (first | ((with_reducible refine gate_dst (N:=2) rfl ?_); (try (refine gate_guard (by rfl) ?_; dsimp only)); refine box_event ?hg (N:=2) ?hd (cs := #[.int .i64 a0_0,.int .i64 a0_1,.slice A0_2 l0_2.length c0_2,.slice A0_3 l0_3.length c0_3,.int .i64 a0_4,.int .i64 a0_5,.int .i64 a0_6,.int .i64 a0_7,.int .i64 a0_8,.int .i64 a0_9]) (t:=87) ?hr ?_; (case hd => rfl); (case hg => rfl); (case hr => first | (go_simp; done) | (go_simp; rfl)); intro gb110 hg w4 hbox hb; have n0_ := Aside0.mk (below_step bA hb); have n1_ := Aside0.mk (hbox); have n2_ := Aside0.mk ((by rw [hg]; exact (below_size bA) : w.heap.size ≤ gb110)); have n3_ := Aside0.mk ((by rw [hg]; exact (below_size bA) : w.heap.size ≤ gb110)); clear HB; have HB := n0_; have BK110 := n1_; have GW110 := n2_; have GE110 := n3_; clear n0_ n1_ n2_ n3_; clear hb hbox hg) | ((with_reducible refine gate_dst (N:=3) rfl ?_); (try (refine gate_guard (by rfl) ?_; dsimp only)); refine box_event ?hg (N:=3) ?hd (cs := #[.int .i64 a1_0,.int .i64 a1_1,.slice A1_2 l1_2.length c1_2,.slice A1_3 l1_3.length c1_3,.int .i64 a1_4,.int .i64 a1_5,.int .i64 a1_6,.int .i64 a1_7,.int .i64 a1_8,.int .i64 a1_9]) (t:=87) ?hr ?_; (case hd => rfl); (case hg => rfl); (case hr => first | (go_simp; done) | (go_simp; rfl)); intro gb111 hg w5 hbox hb; have n0_ := Aside0.mk (blk_below (g:=gb110) (o:=.cells #[.int .i64 a0_0,.int .i64 a0_1,.slice A0_2 l0_2.length c0_2,.slice A0_3 l0_3.length c0_3,.int .i64 a0_4,.int .i64 a0_5,.int .i64 a0_6,.int .i64 a0_7,.int .i64 a0_8,.int .i64 a0_9] 87 (0,0)) (kA BK110.out) hb); have n1_ := Aside0.mk (below_step bA hb); have n2_ := Aside0.mk (hbox); have n3_ := Aside0.mk ((by rw [hg]; exact (below_size bA) : w.heap.size ≤ gb111)); have n4_ := Aside0.mk ((by rw [hg]; exact (below_size bA) : w.heap.size ≤ gb111)); have n5_ := Aside0.mk ((by rw [hg]; exact Nat.ne_of_lt (blk_lt (g:=gb110) (o:=.cells #[.int .i64 a0_0,.int .i64 a0_1,.slice A0_2 l0_2.length c0_2,.slice A0_3 l0_3.length c0_3,.int .i64 a0_4,.int .i64 a0_5,.int .i64 a0_6,.int .i64 a0_7,.int .i64 a0_8,.int .i64 a0_9] 87 (0,0)) (kA BK110.out)) : gb110 ≠ gb111)); have n6_ := Aside0.mk ((by rw [hg]; exact Nat.ne_of_gt (blk_lt (g:=gb110) (o:=.cells #[.int .i64 a0_0,.int .i64 a0_1,.slice A0_2 l0_2.length c0_2,.slice A0_3 l0_3.length c0_3,.int .i64 a0_4,.int .i64 a0_5,.int .i64 a0_6,.int .i64 a0_7,.int .i64 a0_8,.int .i64 a0_9] 87 (0,0)) (kA BK110.out)) : gb111 ≠ gb110)); clear BK110; clear HB; have BK110 := n0_; have HB := n1_; have BK111 := n2_; have GW111 := n3_; have GE111 := n4_; have NB110_111 := n5_; have NB111_110 := n6_; clear n0_ n1_ n2_ n3_ n4_ n5_ n6_; clear hb hbox hg)))
 (try simp only [Act.put,setIfInBounds_toArray,set_cons_zero,set_cons_succ])
 go_cut [50] (fun v50 wc => ∃ (kq : Nat) (x50_2 : Bool),v50 = .bool x50_2 ∧ Aside0 (spec_SameState.j0 kq x50_2 a0_0 a0_1 l0_2 l0_3 a0_4 a0_5 a0_6 a0_7 a0_8 a0_9 a1_0 a1_1 l1_2 l1_3 a1_4 a1_5 a1_6 a1_7 a1_8 a1_9 = some r) ∧ Aside0 (kq ≤ k) ∧ Aside0 (wc.heap[gb110]? = some (.cells #[.int .i64 a0_0,.int .i64 a0_1,(.slice A0_2 l0_2.length c0_2),(.slice A0_3 l0_3.length c0_3),.int .i64 a0_4,.int .i64 a0_5,.int .i64 a0_6,.int .i64 a0_7,.int .i64 a0_8,.int .i64 a0_9] 87 (0,0))) ∧ Aside0 (wc.heap[gb111]? = some (.cells #[.int .i64 a1_0,.int .i64 a1_1,(.slice A1_2 l1_2.length c1_2),(.slice A1_3 l1_3.length c1_3),.int .i64 a1_4,.int .i64 a1_5,.int .i64 a1_6,.int .i64 a1_7,.int .i64 a1_8,.int .i64 a1_9] 87 (0,0))) ∧ Aside0 (Below w.heap.size w wc))
 case first =>
  have H := HC3.out
  clear HC3
  by_cases c6 : a0_0 = a1_0
  ·rw [if_pos c6] at H
   have c6b0 : (a0_0 == a1_0) = true := beq_iff_eq.mpr c6
   have c6b1 : (a0_0 != a1_0) = false := bne_eq_false_iff_eq.mpr c6
   clear c6
   (first | rw [c6b0] | (simp only [i64_w,i32_w]; rw [c6b0]) | skip)
   by_cases c7 : a0_1 = a1_1
   ·rw [if_pos c7] at H
    have c7b0 : (a0_1 == a1_1) = true := beq_iff_eq.mpr c7
    have c7b1 : (a0_1 != a1_1) = false := bne_eq_false_iff_eq.mpr c7
    clear c7
    by_cases c8 : (!(a0_4 == a1_4) || (!(a0_5 == a1_5) || (!(a0_6 == a1_6)))) = true
    ·rw [if_pos c8] at H
     have c8b0 : (!(a0_4 == a1_4) || (!(a0_5 == a1_5) || (!(a0_6 == a1_6)))) = true := c8
     clear c8
     have H' := Aside0.mk H
     clear H
     have hnb9 := NB110_111.out
     have hnc9 := NB111_110.out
     have hcz10_0 : w5.cell? ⟨gb110,0,none⟩ = some (.int .i64 a0_0) := (blk_cell BK110.out 0).trans rfl
     have hcz10_1 : w5.cell? ⟨gb110,1,none⟩ = some (.int .i64 a0_1) := (blk_cell BK110.out 1).trans rfl
     have hcz10_2 : w5.cell? ⟨gb110,2,none⟩ = some (.slice A0_2 l0_2.length c0_2) := (blk_cell BK110.out 2).trans rfl
     have hcz10_3 : w5.cell? ⟨gb110,3,none⟩ = some (.slice A0_3 l0_3.length c0_3) := (blk_cell BK110.out 3).trans rfl
     have hcz10_4 : w5.cell? ⟨gb110,4,none⟩ = some (.int .i64 a0_4) := (blk_cell BK110.out 4).trans rfl
     have hcz10_5 : w5.cell? ⟨gb110,5,none⟩ = some (.int .i64 a0_5) := (blk_cell BK110.out 5).trans rfl
     have hcz10_6 : w5.cell? ⟨gb110,6,none⟩ = some (.int .i64 a0_6) := (blk_cell BK110.out 6).trans rfl
     have hcz10_7 : w5.cell? ⟨gb110,7,none⟩ = some (.int .i64 a0_7) := (blk_cell BK110.out 7).trans rfl
     have hcz10_8 : w5.cell? ⟨gb110,8,none⟩ = some (.int .i64 a0_8) := (blk_cell BK110.out 8).trans rfl
     have hcz10_9 : w5.cell? ⟨gb110,9,none⟩ = some (.int .i64 a0_9) := (blk_cell BK110.out 9).trans rfl
     have hfz10_0 := blk_frozen BK110.out 0
     have hfz10_1 := blk_frozen BK110.out 1
     have hfz10_2 := blk_frozen BK110.out 2
     have hfz10_3 := blk_frozen BK110.out 3
     have hfz10_4 := blk_frozen BK110.out 4
     have hfz10_5 := blk_frozen BK110.out 5
     have hfz10_6 := blk_frozen BK110.out 6
     have hfz10_7 := blk_frozen BK110.out 7
     have hfz10_8 := blk_frozen BK110.out 8
     have hfz10_9 := blk_frozen BK110.out 9
     have hcz11_0 : w5.cell? ⟨gb111,0,none⟩ = some (.int .i64 a1_0) := (blk_cell BK111.out 0).trans rfl
     have hcz11_1 : w5.cell? ⟨gb111,1,none⟩ = some (.int .i64 a1_1) := (blk_cell BK111.out 1).trans rfl
     have hcz11_2 : w5.cell? ⟨gb111,2,none⟩ = some (.slice A1_2 l1_2.length c1_2) := (blk_cell BK111.out 2).trans rfl
     have hcz11_3 : w5.cell? ⟨gb111,3,none⟩ = some (.slice A1_3 l1_3.length c1_3) := (blk_cell BK111.out 3).trans rfl
     have hcz11_4 : w5.cell? ⟨gb111,4,none⟩ = some (.int .i64 a1_4) := (blk_cell BK111.out 4).trans rfl
     have hcz11_5 : w5.cell? ⟨gb111,5,none⟩ = some (.int .i64 a1_5) := (blk_cell BK111.out 5).trans rfl
     have hcz11_6 : w5.cell? ⟨gb111,6,none⟩ = some (.int .i64 a1_6) := (blk_cell BK111.out 6).trans rfl
     have hcz11_7 : w5.cell? ⟨gb111,7,none⟩ = some (.int .i64 a1_7) := (blk_cell BK111.out 7).trans rfl
     have hcz11_8 : w5.cell? ⟨gb111,8,none⟩ = some (.int .i64 a1_8) := (blk_cell BK111.out 8).trans rfl
     have hcz11_9 : w5.cell? ⟨gb111,9,none⟩ = some (.int .i64 a1_9) := (blk_cell BK111.out 9).trans rfl
     have hfz11_0 := blk_frozen BK111.out 0
     have hfz11_1 := blk_frozen BK111.out 1
     have hfz11_2 := blk_frozen BK111.out 2
     have hfz11_3 := blk_frozen BK111.out 3
     have hfz11_4 := blk_frozen BK111.out 4
     have hfz11_5 := blk_frozen BK111.out 5
     have hfz11_6 := blk_frozen BK111.out 6
     have hfz11_7 := blk_frozen BK111.out 7
     have hfz11_8 := blk_frozen BK111.out 8
     have hfz11_9 := blk_frozen BK111.out 9
     go_wp2
     repeat (go_quiet (fail); try go_wp2)
     go_meet
     case rel => exact ⟨_,(true),(by first | rfl | (simp; done) | (simp [*]; done)),H',⟨by first | omega | exact Nat.le_refl _⟩,⟨kA BK110.out⟩,⟨kA BK111.out⟩,⟨bA⟩⟩
    ·rw [if_neg c8] at H
     have c8b0 : (!(a0_4 == a1_4) || (!(a0_5 == a1_5) || (!(a0_6 == a1_6)))) = false := by simpa using c8
     clear c8
     by_cases c12 : (!(a0_7 == a1_7) || (!(a0_8 == a1_8) || (!(a0_9 == a1_9)))) = true
     ·rw [if_pos c12] at H
      have c12b0 : (!(a0_7 == a1_7) || (!(a0_8 == a1_8) || (!(a0_9 == a1_9)))) = true := c12
      clear c12
      have H' := Aside0.mk H
      clear H
      have hnb13 := NB110_111.out
      have hnc13 := NB111_110.out
      have hcz14_0 : w5.cell? ⟨gb110,0,none⟩ = some (.int .i64 a0_0) := (blk_cell BK110.out 0).trans rfl
      have hcz14_1 : w5.cell? ⟨gb110,1,none⟩ = some (.int .i64 a0_1) := (blk_cell BK110.out 1).trans rfl
      have hcz14_2 : w5.cell? ⟨gb110,2,none⟩ = some (.slice A0_2 l0_2.length c0_2) := (blk_cell BK110.out 2).trans rfl
      have hcz14_3 : w5.cell? ⟨gb110,3,none⟩ = some (.slice A0_3 l0_3.length c0_3) := (blk_cell BK110.out 3).trans rfl
      have hcz14_4 : w5.cell? ⟨gb110,4,none⟩ = some (.int .i64 a0_4) := (blk_cell BK110.out 4).trans rfl
      have hcz14_5 : w5.cell? ⟨gb110,5,none⟩ = some (.int .i64 a0_5) := (blk_cell BK110.out 5).trans rfl
      have hcz14_6 : w5.cell? ⟨gb110,6,none⟩ = some (.int .i64 a0_6) := (blk_cell BK110.out 6).trans rfl
      have hcz14_7 : w5.cell? ⟨gb110,7,none⟩ = some (.int .i64 a0_7) := (blk_cell BK110.out 7).trans rfl
      have hcz14_8 : w5.cell? ⟨gb110,8,none⟩ = some (.int .i64 a0_8) := (blk_cell BK110.out 8).trans rfl
      have hcz14_9 : w5.cell? ⟨gb110,9,none⟩ = some (.int .i64 a0_9) := (blk_cell BK110.out 9).trans rfl
      have hfz14_0 := blk_frozen BK110.out 0
      have hfz14_1 := blk_frozen BK110.out 1
      have hfz14_2 := blk_frozen BK110.out 2
      have hfz14_3 := blk_frozen BK110.out 3
      have hfz14_4 := blk_frozen BK110.out 4
      have hfz14_5 := blk_frozen BK110.out 5
      have hfz14_6 := blk_frozen BK110.out 6
      have hfz14_7 := blk_frozen BK110.out 7
      have hfz14_8 := blk_frozen BK110.out 8
      have hfz14_9 := blk_frozen BK110.out 9
      have hcz15_0 : w5.cell? ⟨gb111,0,none⟩ = some (.int .i64 a1_0) := (blk_cell BK111.out 0).trans rfl
      have hcz15_1 : w5.cell? ⟨gb111,1,none⟩ = some (.int .i64 a1_1) := (blk_cell BK111.out 1).trans rfl
      have hcz15_2 : w5.cell? ⟨gb111,2,none⟩ = some (.slice A1_2 l1_2.length c1_2) := (blk_cell BK111.out 2).trans rfl
      have hcz15_3 : w5.cell? ⟨gb111,3,none⟩ = some (.slice A1_3 l1_3.length c1_3) := (blk_cell BK111.out 3).trans rfl
      have hcz15_4 : w5.cell? ⟨gb111,4,none⟩ = some (.int .i64 a1_4) := (blk_cell BK111.out 4).trans rfl
      have hcz15_5 : w5.cell? ⟨gb111,5,none⟩ = some (.int .i64 a1_5) := (blk_cell BK111.out 5).trans rfl
      have hcz15_6 : w5.cell? ⟨gb111,6,none⟩ = some (.int .i64 a1_6) := (blk_cell BK111.out 6).trans rfl
      have hcz15_7 : w5.cell? ⟨gb111,7,none⟩ = some (.int .i64 a1_7) := (blk_cell BK111.out 7).trans rfl
      have hcz15_8 : w5.cell? ⟨gb111,8,none⟩ = some (.int .i64 a1_8) := (blk_cell BK111.out 8).trans rfl
      have hcz15_9 : w5.cell? ⟨gb111,9,none⟩ = some (.int .i64 a1_9) := (blk_cell BK111.out 9).trans rfl
      have hfz15_0 := blk_frozen BK111.out 0
      have hfz15_1 := blk_frozen BK111.out 1
      have hfz15_2 := blk_frozen BK111.out 2
      have hfz15_3 := blk_frozen BK111.out 3
      have hfz15_4 := blk_frozen BK111.out 4
      have hfz15_5 := blk_frozen BK111.out 5
      have hfz15_6 := blk_frozen BK111.out 6
      have hfz15_7 := blk_frozen BK111.out 7
      have hfz15_8 := blk_frozen BK111.out 8
      have hfz15_9 := blk_frozen BK111.out 9
      go_wp2
      repeat (go_quiet (fail); try go_wp2)
      go_meet
      case rel => exact ⟨_,(true),(by first | rfl | (simp; done) | (simp [*]; done)),H',⟨by first | omega | exact Nat.le_refl _⟩,⟨kA BK110.out⟩,⟨kA BK111.out⟩,⟨bA⟩⟩
     ·rw [if_neg c12] at H
      have c12b0 : (!(a0_7 == a1_7) || (!(a0_8 == a1_8) || (!(a0_9 == a1_9)))) = false := by simpa using c12
      clear c12
      by_cases c16 : (l0_2.length : Int) = (l1_2.length : Int)
      ·rw [if_pos c16] at H
       have c16b0 : ((l0_2.length : Int) == (l1_2.length : Int)) = true := beq_iff_eq.mpr c16
       have c16b1 : ((l0_2.length : Int) != (l1_2.length : Int)) = false := bne_eq_false_iff_eq.mpr c16
       have c16b2 : (l0_2.length == l1_2.length) = true := by first | simpa using c16 | (simp at c16 ⊢; omega)
       clear c16
       have H' := Aside0.mk H
       clear H
       have hnb17 := NB110_111.out
       have hnc17 := NB111_110.out
       have hcz18_0 : w5.cell? ⟨gb110,0,none⟩ = some (.int .i64 a0_0) := (blk_cell BK110.out 0).trans rfl
       have hcz18_1 : w5.cell? ⟨gb110,1,none⟩ = some (.int .i64 a0_1) := (blk_cell BK110.out 1).trans rfl
       have hcz18_2 : w5.cell? ⟨gb110,2,none⟩ = some (.slice A0_2 l0_2.length c0_2) := (blk_cell BK110.out 2).trans rfl
       have hcz18_3 : w5.cell? ⟨gb110,3,none⟩ = some (.slice A0_3 l0_3.length c0_3) := (blk_cell BK110.out 3).trans rfl
       have hcz18_4 : w5.cell? ⟨gb110,4,none⟩ = some (.int .i64 a0_4) := (blk_cell BK110.out 4).trans rfl
       have hcz18_5 : w5.cell? ⟨gb110,5,none⟩ = some (.int .i64 a0_5) := (blk_cell BK110.out 5).trans rfl
       have hcz18_6 : w5.cell? ⟨gb110,6,none⟩ = some (.int .i64 a0_6) := (blk_cell BK110.out 6).trans rfl
       have hcz18_7 : w5.cell? ⟨gb110,7,none⟩ = some (.int .i64 a0_7) := (blk_cell BK110.out 7).trans rfl
       have hcz18_8 : w5.cell? ⟨gb110,8,none⟩ = some (.int .i64 a0_8) := (blk_cell BK110.out 8).trans rfl
       have hcz18_9 : w5.cell? ⟨gb110,9,none⟩ = some (.int .i64 a0_9) := (blk_cell BK110.out 9).trans rfl
       have hfz18_0 := blk_frozen BK110.out 0
       have hfz18_1 := blk_frozen BK110.out 1
       have hfz18_2 := blk_frozen BK110.out 2
       have hfz18_3 := blk_frozen BK110.out 3
       have hfz18_4 := blk_frozen BK110.out 4
       have hfz18_5 := blk_frozen BK110.out 5
       have hfz18_6 := blk_frozen BK110.out 6
       have hfz18_7 := blk_frozen BK110.out 7
       have hfz18_8 := blk_frozen BK110.out 8
       have hfz18_9 := blk_frozen BK110.out 9
       have hcz19_0 : w5.cell? ⟨gb111,0,none⟩ = some (.int .i64 a1_0) := (blk_cell BK111.out 0).trans rfl
       have hcz19_1 : w5.cell? ⟨gb111,1,none⟩ = some (.int .i64 a1_1) := (blk_cell BK111.out 1).trans rfl
       have hcz19_2 : w5.cell? ⟨gb111,2,none⟩ = some (.slice A1_2 l1_2.length c1_2) := (blk_cell BK111.out 2).trans rfl
       have hcz19_3 : w5.cell? ⟨gb111,3,none⟩ = some (.slice A1_3 l1_3.length c1_3) := (blk_cell BK111.out 3).trans rfl
       have hcz19_4 : w5.cell? ⟨gb111,4,none⟩ = some (.int .i64 a1_4) := (blk_cell BK111.out 4).trans rfl
       have hcz19_5 : w5.cell? ⟨gb111,5,none⟩ = some (.int .i64 a1_5) := (blk_cell BK111.out 5).trans rfl
       have hcz19_6 : w5.cell? ⟨gb111,6,none⟩ = some (.int .i64 a1_6) := (blk_cell BK111.out 6).trans rfl
       have hcz19_7 : w5.cell? ⟨gb111,7,none⟩ = some (.int .i64 a1_7) := (blk_cell BK111.out 7).trans rfl
       have hcz19_8 : w5.cell? ⟨gb111,8,none⟩ = some (.int .i64 a1_8) := (blk_cell BK111.out 8).trans rfl
       have hcz19_9 : w5.cell? ⟨gb111,9,none⟩ = some (.int .i64 a1_9) := (blk_cell BK111.out 9).trans rfl
       have hfz19_0 := blk_frozen BK111.out 0
       have hfz19_1 := blk_frozen BK111.out 1
       have hfz19_2 := blk_frozen BK111.out 2
       have hfz19_3 := blk_frozen BK111.out 3
       have hfz19_4 := blk_frozen BK111.out 4
       have hfz19_5 := blk_frozen BK111.out 5
       have hfz19_6 := blk_frozen BK111.out 6
       have hfz19_7 := blk_frozen BK111.out 7
       have hfz19_8 := blk_frozen BK111.out 8
       have hfz19_9 := blk_frozen BK111.out 9
       go_wp2
       repeat (go_quiet (fail); try go_wp2)
       go_meet
       case rel => exact ⟨_,(((l0_3.length : Int) != (l1_3.length : Int))),(by first | rfl | (simp; done) | (simp [*]; done)),H',⟨by first | omega | exact Nat.le_refl _⟩,⟨kA BK110.out⟩,⟨kA BK111.out⟩,⟨bA⟩⟩
      ·rw [if_neg c16] at H
       have c16b0 : ((l0_2.length : Int) == (l1_2.length : Int)) = false := beq_eq_false_iff_ne.mpr c16
       have c16b1 : ((l0_2.length : Int) != (l1_2.length : Int)) = true := bne_iff_ne.mpr c16
       have c16b2 : (l0_2.length == l1_2.length) = false := by first | simpa using c16 | (simp at c16 ⊢; omega)
       have H' := Aside0.mk H
       clear H
       have hnb20 := NB110_111.out
       have hnc20 := NB111_110.out
       have hcz21_0 : w5.cell? ⟨gb110,0,none⟩ = some (.int .i64 a0_0) := (blk_cell BK110.out 0).trans rfl
       have hcz21_1 : w5.cell? ⟨gb110,1,none⟩ = some (.int .i64 a0_1) := (blk_cell BK110.out 1).trans rfl
       have hcz21_2 : w5.cell? ⟨gb110,2,none⟩ = some (.slice A0_2 l0_2.length c0_2) := (blk_cell BK110.out 2).trans rfl
       have hcz21_3 : w5.cell? ⟨gb110,3,none⟩ = some (.slice A0_3 l0_3.length c0_3) := (blk_cell BK110.out 3).trans rfl
       have hcz21_4 : w5.cell? ⟨gb110,4,none⟩ = some (.int .i64 a0_4) := (blk_cell BK110.out 4).trans rfl
       have hcz21_5 : w5.cell? ⟨gb110,5,none⟩ = some (.int .i64 a0_5) := (blk_cell BK110.out 5).trans rfl
       have hcz21_6 : w5.cell? ⟨gb110,6,none⟩ = some (.int .i64 a0_6) := (blk_cell BK110.out 6).trans rfl
       have hcz21_7 : w5.cell? ⟨gb110,7,none⟩ = some (.int .i64 a0_7) := (blk_cell BK110.out 7).trans rfl
       have hcz21_8 : w5.cell? ⟨gb110,8,none⟩ = some (.int .i64 a0_8) := (blk_cell BK110.out 8).trans rfl
       have hcz21_9 : w5.cell? ⟨gb110,9,none⟩ = some (.int .i64 a0_9) := (blk_cell BK110.out 9).trans rfl
       have hfz21_0 := blk_frozen BK110.out 0
       have hfz21_1 := blk_frozen BK110.out 1
       have hfz21_2 := blk_frozen BK110.out 2
       have hfz21_3 := blk_frozen BK110.out 3
       have hfz21_4 := blk_frozen BK110.out 4
       have hfz21_5 := blk_frozen BK110.out 5
       have hfz21_6 := blk_frozen BK110.out 6
       have hfz21_7 := blk_frozen BK110.out 7
       have hfz21_8 := blk_frozen BK110.out 8
       have hfz21_9 := blk_frozen BK110.out 9
       have hcz22_0 : w5.cell? ⟨gb111,0,none⟩ = some (.int .i64 a1_0) := (blk_cell BK111.out 0).trans rfl
       have hcz22_1 : w5.cell? ⟨gb111,1,none⟩ = some (.int .i64 a1_1) := (blk_cell BK111.out 1).trans rfl
       have hcz22_2 : w5.cell? ⟨gb111,2,none⟩ = some (.slice A1_2 l1_2.length c1_2) := (blk_cell BK111.out 2).trans rfl
       have hcz22_3 : w5.cell? ⟨gb111,3,none⟩ = some (.slice A1_3 l1_3.length c1_3) := (blk_cell BK111.out 3).trans rfl
       have hcz22_4 : w5.cell? ⟨gb111,4,none⟩ = some (.int .i64 a1_4) := (blk_cell BK111.out 4).trans rfl
       have hcz22_5 : w5.cell? ⟨gb111,5,none⟩ = some (.int .i64 a1_5) := (blk_cell BK111.out 5).trans rfl
       have hcz22_6 : w5.cell? ⟨gb111,6,none⟩ = some (.int .i64 a1_6) := (blk_cell BK111.out 6).trans rfl
       have hcz22_7 : w5.cell? ⟨gb111,7,none⟩ = some (.int .i64 a1_7) := (blk_cell BK111.out 7).trans rfl
       have hcz22_8 : w5.cell? ⟨gb111,8,none⟩ = some (.int .i64 a1_8) := (blk_cell BK111.out 8).trans rfl
       have hcz22_9 : w5.cell? ⟨gb111,9,none⟩ = some (.int .i64 a1_9) := (blk_cell BK111.out 9).trans rfl
       have hfz22_0 := blk_frozen BK111.out 0
       have hfz22_1 := blk_frozen BK111.out 1
       have hfz22_2 := blk_frozen BK111.out 2
       have hfz22_3 := blk_frozen BK111.out 3
       have hfz22_4 := blk_frozen BK111.out 4
       have hfz22_5 := blk_frozen BK111.out 5
       have hfz22_6 := blk_frozen BK111.out 6
       have hfz22_7 := blk_frozen BK111.out 7
       have hfz22_8 := blk_frozen BK111.out 8
       have hfz22_9 := blk_frozen BK111.out 9
       go_wp2
       repeat (go_quiet (fail); try go_wp2)
       go_meet
       case rel => exact ⟨_,(true),(by first | rfl | (simp; done) | (simp [*]; done)),H',⟨by first | omega | exact Nat.le_refl _⟩,⟨kA BK110.out⟩,⟨kA BK111.out⟩,⟨bA⟩⟩
   ·rw [if_neg c7] at H
    have c7b0 : (a0_1 == a1_1) = false := beq_eq_false_iff_ne.mpr c7
    have c7b1 : (a0_1 != a1_1) = true := bne_iff_ne.mpr c7
    have H' := Aside0.mk H
    clear H
    have hnb23 := NB110_111.out
    have hnc23 := NB111_110.out
    have hcz24_0 : w5.cell? ⟨gb110,0,none⟩ = some (.int .i64 a0_0) := (blk_cell BK110.out 0).trans rfl
    have hcz24_1 : w5.cell? ⟨gb110,1,none⟩ = some (.int .i64 a0_1) := (blk_cell BK110.out 1).trans rfl
    have hcz24_2 : w5.cell? ⟨gb110,2,none⟩ = some (.slice A0_2 l0_2.length c0_2) := (blk_cell BK110.out 2).trans rfl
    have hcz24_3 : w5.cell? ⟨gb110,3,none⟩ = some (.slice A0_3 l0_3.length c0_3) := (blk_cell BK110.out 3).trans rfl
    have hcz24_4 : w5.cell? ⟨gb110,4,none⟩ = some (.int .i64 a0_4) := (blk_cell BK110.out 4).trans rfl
    have hcz24_5 : w5.cell? ⟨gb110,5,none⟩ = some (.int .i64 a0_5) := (blk_cell BK110.out 5).trans rfl
    have hcz24_6 : w5.cell? ⟨gb110,6,none⟩ = some (.int .i64 a0_6) := (blk_cell BK110.out 6).trans rfl
    have hcz24_7 : w5.cell? ⟨gb110,7,none⟩ = some (.int .i64 a0_7) := (blk_cell BK110.out 7).trans rfl
    have hcz24_8 : w5.cell? ⟨gb110,8,none⟩ = some (.int .i64 a0_8) := (blk_cell BK110.out 8).trans rfl
    have hcz24_9 : w5.cell? ⟨gb110,9,none⟩ = some (.int .i64 a0_9) := (blk_cell BK110.out 9).trans rfl
    have hfz24_0 := blk_frozen BK110.out 0
    have hfz24_1 := blk_frozen BK110.out 1
    have hfz24_2 := blk_frozen BK110.out 2
    have hfz24_3 := blk_frozen BK110.out 3
    have hfz24_4 := blk_frozen BK110.out 4
    have hfz24_5 := blk_frozen BK110.out 5
    have hfz24_6 := blk_frozen BK110.out 6
    have hfz24_7 := blk_frozen BK110.out 7
    have hfz24_8 := blk_frozen BK110.out 8
    have hfz24_9 := blk_frozen BK110.out 9
    have hcz25_0 : w5.cell? ⟨gb111,0,none⟩ = some (.int .i64 a1_0) := (blk_cell BK111.out 0).trans rfl
    have hcz25_1 : w5.cell? ⟨gb111,1,none⟩ = some (.int .i64 a1_1) := (blk_cell BK111.out 1).trans rfl
    have hcz25_2 : w5.cell? ⟨gb111,2,none⟩ = some (.slice A1_2 l1_2.length c1_2) := (blk_cell BK111.out 2).trans rfl
    have hcz25_3 : w5.cell? ⟨gb111,3,none⟩ = some (.slice A1_3 l1_3.length c1_3) := (blk_cell BK111.out 3).trans rfl
    have hcz25_4 : w5.cell? ⟨gb111,4,none⟩ = some (.int .i64 a1_4) := (blk_cell BK111.out 4).trans rfl
    have hcz25_5 : w5.cell? ⟨gb111,5,none⟩ = some (.int .i64 a1_5) := (blk_cell BK111.out 5).trans rfl
    have hcz25_6 : w5.cell? ⟨gb111,6,none⟩ = some (.int .i64 a1_6) := (blk_cell BK111.out 6).trans rfl
    have hcz25_7 : w5.cell? ⟨gb111,7,none⟩ = some (.int .i64 a1_7) := (blk_cell BK111.out 7).trans rfl
    have hcz25_8 : w5.cell? ⟨gb111,8,none⟩ = some (.int .i64 a1_8) := (blk_cell BK111.out 8).trans rfl
    have hcz25_9 : w5.cell? ⟨gb111,9,none⟩ = some (.int .i64 a1_9) := (blk_cell BK111.out 9).trans rfl
    have hfz25_0 := blk_frozen BK111.out 0
    have hfz25_1 := blk_frozen BK111.out 1
    have hfz25_2 := blk_frozen BK111.out 2
    have hfz25_3 := blk_frozen BK111.out 3
    have hfz25_4 := blk_frozen BK111.out 4
    have hfz25_5 := blk_frozen BK111.out 5
    have hfz25_6 := blk_frozen BK111.out 6
    have hfz25_7 := blk_frozen BK111.out 7
    have hfz25_8 := blk_frozen BK111.out 8
    have hfz25_9 := blk_frozen BK111.out 9
    go_wp2
    repeat (go_quiet (fail); try go_wp2)
    go_meet
    case rel => exact ⟨_,(true),(by first | rfl | (simp; done) | (simp [*]; done)),H',⟨by first | omega | exact Nat.le_refl _⟩,⟨kA BK110.out⟩,⟨kA BK111.out⟩,⟨bA⟩⟩
  ·rw [if_neg c6] at H
   have c6b0 : (a0_0 == a1_0) = false := beq_eq_false_iff_ne.mpr c6
   have c6b1 : (a0_0 != a1_0) = true := bne_iff_ne.mpr c6
   (first | rw [c6b0] | (simp only [i64_w,i32_w]; rw [c6b0]) | skip)
   have H' := Aside0.mk H
   clear H
   have hnb26 := NB110_111.out
   have hnc26 := NB111_110.out
   have hcz27_0 : w5.cell? ⟨gb110,0,none⟩ = some (.int .i64 a0_0) := (blk_cell BK110.out 0).trans rfl
   have hcz27_1 : w5.cell? ⟨gb110,1,none⟩ = some (.int .i64 a0_1) := (blk_cell BK110.out 1).trans rfl
   have hcz27_2 : w5.cell? ⟨gb110,2,none⟩ = some (.slice A0_2 l0_2.length c0_2) := (blk_cell BK110.out 2).trans rfl
   have hcz27_3 : w5.cell? ⟨gb110,3,none⟩ = some (.slice A0_3 l0_3.length c0_3) := (blk_cell BK110.out 3).trans rfl
   have hcz27_4 : w5.cell? ⟨gb110,4,none⟩ = some (.int .i64 a0_4) := (blk_cell BK110.out 4).trans rfl
   have hcz27_5 : w5.cell? ⟨gb110,5,none⟩ = some (.int .i64 a0_5) := (blk_cell BK110.out 5).trans rfl
   have hcz27_6 : w5.cell? ⟨gb110,6,none⟩ = some (.int .i64 a0_6) := (blk_cell BK110.out 6).trans rfl
   have hcz27_7 : w5.cell? ⟨gb110,7,none⟩ = some (.int .i64 a0_7) := (blk_cell BK110.out 7).trans rfl
   have hcz27_8 : w5.cell? ⟨gb110,8,none⟩ = some (.int .i64 a0_8) := (blk_cell BK110.out 8).trans rfl
   have hcz27_9 : w5.cell? ⟨gb110,9,none⟩ = some (.int .i64 a0_9) := (blk_cell BK110.out 9).trans rfl
   have hfz27_0 := blk_frozen BK110.out 0
   have hfz27_1 := blk_frozen BK110.out 1
   have hfz27_2 := blk_frozen BK110.out 2
   have hfz27_3 := blk_frozen BK110.out 3
   have hfz27_4 := blk_frozen BK110.out 4
   have hfz27_5 := blk_frozen BK110.out 5
   have hfz27_6 := blk_frozen BK110.out 6
   have hfz27_7 := blk_frozen BK110.out 7
   have hfz27_8 := blk_frozen BK110.out 8
   have hfz27_9 := blk_frozen BK110.out 9
   have hcz28_0 : w5.cell? ⟨gb111,0,none⟩ = some (.int .i64 a1_0) := (blk_cell BK111.out 0).trans rfl
   have hcz28_1 : w5.cell? ⟨gb111,1,none⟩ = some (.int .i64 a1_1) := (blk_cell BK111.out 1).trans rfl
   have hcz28_2 : w5.cell? ⟨gb111,2,none⟩ = some (.slice A1_2 l1_2.length c1_2) := (blk_cell BK111.out 2).trans rfl
   have hcz28_3 : w5.cell? ⟨gb111,3,none⟩ = some (.slice A1_3 l1_3.length c1_3) := (blk_cell BK111.out 3).trans rfl
   have hcz28_4 : w5.cell? ⟨gb111,4,none⟩ = some (.int .i64 a1_4) := (blk_cell BK111.out 4).trans rfl
   have hcz28_5 : w5.cell? ⟨gb111,5,none⟩ = some (.int .i64 a1_5) := (blk_cell BK111.out 5).trans rfl
   have hcz28_6 : w5.cell? ⟨gb111,6,none⟩ = some (.int .i64 a1_6) := (blk_cell BK111.out 6).trans rfl
   have hcz28_7 : w5.cell? ⟨gb111,7,none⟩ = some (.int .i64 a1_7) := (blk_cell BK111.out 7).trans rfl
   have hcz28_8 : w5.cell? ⟨gb111,8,none⟩ = some (.int .i64 a1_8) := (blk_cell BK111.out 8).trans rfl
   have hcz28_9 : w5.cell? ⟨gb111,9,none⟩ = some (.int .i64 a1_9) := (blk_cell BK111.out 9).trans rfl
   have hfz28_0 := blk_frozen BK111.out 0
   have hfz28_1 := blk_frozen BK111.out 1
   have hfz28_2 := blk_frozen BK111.out 2
   have hfz28_3 := blk_frozen BK111.out 3
   have hfz28_4 := blk_frozen BK111.out 4
   have hfz28_5 := blk_frozen BK111.out 5
   have hfz28_6 := blk_frozen BK111.out 6
   have hfz28_7 := blk_frozen BK111.out 7
   have hfz28_8 := blk_frozen BK111.out 8
   have hfz28_9 := blk_frozen BK111.out 9
   go_wp2
   repeat (go_quiet (fail); try go_wp2)
   go_meet
   case rel => exact ⟨_,(true),(by first | rfl | (simp; done) | (simp [*]; done)),H',⟨by first | omega | exact Nat.le_refl _⟩,⟨kA BK110.out⟩,⟨kA BK111.out⟩,⟨bA⟩⟩
 case rest =>
  clear HC3
  try clear c1
  try clear c2
  try clear p2
  try clear c4
  try clear c6
  try clear c6b0
  try clear c6b1
  try clear c7
  try clear c7b0
  try clear c7b1
  try clear c8
  try clear c8b0
  try clear c9
  try clear c12
  try clear c12b0
  try clear c13
  try clear c16
  try clear c16b0
  try clear c16b1
  try clear c16b2
  try clear c17
  try clear c20
  try clear c23
  try clear c26
  try clear hcz10_0
  try clear hcz10_1
  try clear hcz10_2
  try clear hcz10_3
  try clear hcz10_4
  try clear hcz10_5
  try clear hcz10_6
  try clear hcz10_7
  try clear hcz10_8
  try clear hcz10_9
  try clear hcz11_0
  try clear hcz11_1
  try clear hcz11_2
  try clear hcz11_3
  try clear hcz11_4
  try clear hcz11_5
  try clear hcz11_6
  try clear hcz11_7
  try clear hcz11_8
  try clear hcz11_9
  try clear hcz14_0
  try clear hcz14_1
  try clear hcz14_2
  try clear hcz14_3
  try clear hcz14_4
  try clear hcz14_5
  try clear hcz14_6
  try clear hcz14_7
  try clear hcz14_8
  try clear hcz14_9
  try clear hcz15_0
  try clear hcz15_1
  try clear hcz15_2
  try clear hcz15_3
  try clear hcz15_4
  try clear hcz15_5
  try clear hcz15_6
  try clear hcz15_7
  try clear hcz15_8
  try clear hcz15_9
  try clear hcz18_0
  try clear hcz18_1
  try clear hcz18_2
  try clear hcz18_3
  try clear hcz18_4
  try clear hcz18_5
  try clear hcz18_6
  try clear hcz18_7
  try clear hcz18_8
  try clear hcz18_9
  try clear hcz19_0
  try clear hcz19_1
  try clear hcz19_2
  try clear hcz19_3
  try clear hcz19_4
  try clear hcz19_5
  try clear hcz19_6
  try clear hcz19_7
  try clear hcz19_8
  try clear hcz19_9
  try clear hcz21_0
  try clear hcz21_1
  try clear hcz21_2
  try clear hcz21_3
  try clear hcz21_4
  try clear hcz21_5
  try clear hcz21_6
  try clear hcz21_7
  try clear hcz21_8
  try clear hcz21_9
  try clear hcz22_0
  try clear hcz22_1
  try clear hcz22_2
  try clear hcz22_3
  try clear hcz22_4
  try clear hcz22_5
  try clear hcz22_6
  try clear hcz22_7
  try clear hcz22_8
  try clear hcz22_9
  try clear hcz24_0
  try clear hcz24_1
  try clear hcz24_2
  try clear hcz24_3
  try clear hcz24_4
  try clear hcz24_5
  try clear hcz24_6
  try clear hcz24_7
  try clear hcz24_8
  try clear hcz24_9
  try clear hcz25_0
  try clear hcz25_1
  try clear hcz25_2
  try clear hcz25_3
  try clear hcz25_4
  try clear hcz25_5
  try clear hcz25_6
  try clear hcz25_7
  try clear hcz25_8
  try clear hcz25_9
  try clear hcz27_0
  try clear hcz27_1
  try clear hcz27_2
  try clear hcz27_3
  try clear hcz27_4
  try clear hcz27_5
  try clear hcz27_6
  try clear hcz27_7
  try clear hcz27_8
  try clear hcz27_9
  try clear hcz28_0
  try clear hcz28_1
  try clear hcz28_2
  try clear hcz28_3
  try clear hcz28_4
  try clear hcz28_5
  try clear hcz28_6
  try clear hcz28_7
  try clear hcz28_8
  try clear hcz28_9
  try clear hfz10_0
  try clear hfz10_1
  try clear hfz10_2
  try clear hfz10_3
  try clear hfz10_4
  try clear hfz10_5
  try clear hfz10_6
  try clear hfz10_7
  try clear hfz10_8
  try clear hfz10_9
  try clear hfz11_0
  try clear hfz11_1
  try clear hfz11_2
  try clear hfz11_3
  try clear hfz11_4
  try clear hfz11_5
  try clear hfz11_6
  try clear hfz11_7
  try clear hfz11_8
  try clear hfz11_9
  try clear hfz14_0
  try clear hfz14_1
  try clear hfz14_2
  try clear hfz14_3
  try clear hfz14_4
  try clear hfz14_5
  try clear hfz14_6
  try clear hfz14_7
  try clear hfz14_8
  try clear hfz14_9
  try clear hfz15_0
  try clear hfz15_1
  try clear hfz15_2
  try clear hfz15_3
  try clear hfz15_4
  try clear hfz15_5
  try clear hfz15_6
  try clear hfz15_7
  try clear hfz15_8
  try clear hfz15_9
  try clear hfz18_0
  try clear hfz18_1
  try clear hfz18_2
  try clear hfz18_3
  try clear hfz18_4
  try clear hfz18_5
  try clear hfz18_6
  try clear hfz18_7
  try clear hfz18_8
  try clear hfz18_9
  try clear hfz19_0
  try clear hfz19_1
  try clear hfz19_2
  try clear hfz19_3
  try clear hfz19_4
  try clear hfz19_5
  try clear hfz19_6
  try clear hfz19_7
  try clear hfz19_8
  try clear hfz19_9
  try clear hfz21_0
  try clear hfz21_1
  try clear hfz21_2
  try clear hfz21_3
  try clear hfz21_4
  try clear hfz21_5
  try clear hfz21_6
  try clear hfz21_7
  try clear hfz21_8
  try clear hfz21_9
  try clear hfz22_0
  try clear hfz22_1
  try clear hfz22_2
  try clear hfz22_3
  try clear hfz22_4
  try clear hfz22_5
  try clear hfz22_6
  try clear hfz22_7
  try clear hfz22_8
  try clear hfz22_9
  try clear hfz24_0
  try clear hfz24_1
  try clear hfz24_2
  try clear hfz24_3
  try clear hfz24_4
  try clear hfz24_5
  try clear hfz24_6
  try clear hfz24_7
  try clear hfz24_8
  try clear hfz24_9
  try clear hfz25_0
  try clear hfz25_1
  try clear hfz25_2
  try clear hfz25_3
  try clear hfz25_4
  try clear hfz25_5
  try clear hfz25_6
  try clear hfz25_7
  try clear hfz25_8
  try clear hfz25_9
  try clear hfz27_0
  try clear hfz27_1
  try clear hfz27_2
  try clear hfz27_3
  try clear hfz27_4
  try clear hfz27_5
  try clear hfz27_6
  try clear hfz27_7
  try clear hfz27_8
  try clear hfz27_9
  try clear hfz28_0
  try clear hfz28_1
  try clear hfz28_2
  try clear hfz28_3
  try clear hfz28_4
  try clear hfz28_5
  try clear hfz28_6
  try clear hfz28_7
  try clear hfz28_8
  try clear hfz28_9
  obtain ⟨kq,x50_2,rfl,HA,HJ2,BK110,BK111,HB⟩ := hcut
  cases kq with
  | zero => exact absurd HA.out (by simp [spec_SameState.j0])
  | succ kj2 =>
   have H := HA.out
   clear HA
   simp only [spec_SameState.j0] at H
   by_cases c29 : x50_2 = true
   ·subst c29
    rw [if_pos rfl] at H
    obtain rfl := Option.some.inj H
    go_wp2
    repeat (go_quiet (fail); try go_wp2)
    go_ret
    exact ⟨by first | rfl | (simp only [i64_w,i32_w] <;> rfl) | (simp [errW_none,errW_some] <;> rfl) | (simp [*,errW_none,errW_some] <;> rfl),bA⟩
   ·replace c29 := Bool.eq_false_iff.mpr c29
    subst c29
    rw [if_neg (show ¬ (false = true) by decide)] at H
    have H' := Aside0.mk H
    clear H
    go_wp2
    repeat (go_quiet (fail); try go_wp2)
    go_loopg [5] kj2 (fun kq v5 w' => ∃ (x5_2 : Int),v5 = .int .i64 x5_2 ∧ Aside0 (spec_SameState.l0 kq x5_2 a0_0 a0_1 l0_2 l0_3 a0_4 a0_5 a0_6 a0_7 a0_8 a0_9 a1_0 a1_1 l1_2 l1_3 a1_4 a1_5 a1_6 a1_7 a1_8 a1_9 = some r) ∧ Aside0 (kq ≤ kj2) ∧ Aside0 (w'.heap[gb110]? = some (.cells #[.int .i64 a0_0,.int .i64 a0_1,(.slice A0_2 l0_2.length c0_2),(.slice A0_3 l0_3.length c0_3),.int .i64 a0_4,.int .i64 a0_5,.int .i64 a0_6,.int .i64 a0_7,.int .i64 a0_8,.int .i64 a0_9] 87 (0,0))) ∧ Aside0 (w'.heap[gb111]? = some (.cells #[.int .i64 a1_0,.int .i64 a1_1,(.slice A1_2 l1_2.length c1_2),(.slice A1_3 l1_3.length c1_3),.int .i64 a1_4,.int .i64 a1_5,.int .i64 a1_6,.int .i64 a1_7,.int .i64 a1_8,.int .i64 a1_9] 87 (0,0))) ∧ Aside0 (Below w.heap.size w w'))
    case atStart => exact ⟨(0),(by first | rfl | (simp; done) | (simp [*]; done)),H',⟨Nat.le_refl _⟩,⟨kA BK110.out⟩,⟨kA BK111.out⟩,⟨bA⟩⟩
    case round =>
     clear H'
     try clear c1
     try clear c2
     try clear p2
     try clear c4
     try clear c6
     try clear c6b0
     try clear c6b1
     try clear c7
     try clear c7b0
     try clear c7b1
     try clear c8
     try clear c8b0
     try clear c9
     try clear c12
     try clear c12b0
     try clear c13
     try clear c16
     try clear c16b0
     try clear c16b1
     try clear c16b2
     try clear c17
     try clear c20
     try clear c23
     try clear c26
     try clear c29
     try clear hcz10_0
     try clear hcz10_1
     try clear hcz10_2
     try clear hcz10_3
     try clear hcz10_4
     try clear hcz10_5
     try clear hcz10_6
     try clear hcz10_7
     try clear hcz10_8
     try clear hcz10_9
     try clear hcz11_0
     try clear hcz11_1
     try clear hcz11_2
     try clear hcz11_3
     try clear hcz11_4
     try clear hcz11_5
     try clear hcz11_6
     try clear hcz11_7
     try clear hcz11_8
     try clear hcz11_9
     try clear hcz14_0
     try clear hcz14_1
     try clear hcz14_2
     try clear hcz14_3
     try clear hcz14_4
     try clear hcz14_5
     try clear hcz14_6
     try clear hcz14_7
     try clear hcz14_8
     try clear hcz14_9
     try clear hcz15_0
     try clear hcz15_1
     try clear hcz15_2
     try clear hcz15_3
     try clear hcz15_4
     try clear hcz15_5
     try clear hcz15_6
     try clear hcz15_7
     try clear hcz15_8
     try clear hcz15_9
     try clear hcz18_0
     try clear hcz18_1
     try clear hcz18_2
     try clear hcz18_3
     try clear hcz18_4
     try clear hcz18_5
     try clear hcz18_6
     try clear hcz18_7
     try clear hcz18_8
     try clear hcz18_9
     try clear hcz19_0
     try clear hcz19_1
     try clear hcz19_2
     try clear hcz19_3
     try clear hcz19_4
     try clear hcz19_5
     try clear hcz19_6
     try clear hcz19_7
     try clear hcz19_8
     try clear hcz19_9
     try clear hcz21_0
     try clear hcz21_1
     try clear hcz21_2
     try clear hcz21_3
     try clear hcz21_4
     try clear hcz21_5
     try clear hcz21_6
     try clear hcz21_7
     try clear hcz21_8
     try clear hcz21_9
     try clear hcz22_0
     try clear hcz22_1
     try clear hcz22_2
     try clear hcz22_3
     try clear hcz22_4
     try clear hcz22_5
     try clear hcz22_6
     try clear hcz22_7
     try clear hcz22_8
     try clear hcz22_9
     try clear hcz24_0
     try clear hcz24_1
     try clear hcz24_2
     try clear hcz24_3
     try clear hcz24_4
     try clear hcz24_5
     try clear hcz24_6
     try clear hcz24_7
     try clear hcz24_8
     try clear hcz24_9
     try clear hcz25_0
     try clear hcz25_1
     try clear hcz25_2
     try clear hcz25_3
     try clear hcz25_4
     try clear hcz25_5
     try clear hcz25_6
     try clear hcz25_7
     try clear hcz25_8
     try clear hcz25_9
     try clear hcz27_0
     try clear hcz27_1
     try clear hcz27_2
     try clear hcz27_3
     try clear hcz27_4
     try clear hcz27_5
     try clear hcz27_6
     try clear hcz27_7
     try clear hcz27_8
     try clear hcz27_9
     try clear hcz28_0
     try clear hcz28_1
     try clear hcz28_2
     try clear hcz28_3
     try clear hcz28_4
     try clear hcz28_5
     try clear hcz28_6
     try clear hcz28_7
     try clear hcz28_8
     try clear hcz28_9
     try clear hfz10_0
     try clear hfz10_1
     try clear hfz10_2
     try clear hfz10_3
     try clear hfz10_4
     try clear hfz10_5
     try clear hfz10_6
     try clear hfz10_7
     try clear hfz10_8
     try clear hfz10_9
     try clear hfz11_0
     try clear hfz11_1
     try clear hfz11_2
     try clear hfz11_3
     try clear hfz11_4
     try clear hfz11_5
     try clear hfz11_6
     try clear hfz11_7
     try clear hfz11_8
     try clear hfz11_9
     try clear hfz14_0
     try clear hfz14_1
     try clear hfz14_2
     try clear hfz14_3
     try clear hfz14_4
     try clear hfz14_5
     try clear hfz14_6
     try clear hfz14_7
     try clear hfz14_8
     try clear hfz14_9
     try clear hfz15_0
     try clear hfz15_1
     try clear hfz15_2
     try clear hfz15_3
     try clear hfz15_4
     try clear hfz15_5
     try clear hfz15_6
     try clear hfz15_7
     try clear hfz15_8
     try clear hfz15_9
     try clear hfz18_0
     try clear hfz18_1
     try clear hfz18_2
     try clear hfz18_3
     try clear hfz18_4
     try clear hfz18_5
     try clear hfz18_6
     try clear hfz18_7
     try clear hfz18_8
     try clear hfz18_9
     try clear hfz19_0
     try clear hfz19_1
     try clear hfz19_2
     try clear hfz19_3
     try clear hfz19_4
     try clear hfz19_5
     try clear hfz19_6
     try clear hfz19_7
     try clear hfz19_8
     try clear hfz19_9
     try clear hfz21_0
     try clear hfz21_1
     try clear hfz21_2
     try clear hfz21_3
     try clear hfz21_4
     try clear hfz21_5
     try clear hfz21_6
     try clear hfz21_7
     try clear hfz21_8
     try clear hfz21_9
     try clear hfz22_0
     try clear hfz22_1
     try clear hfz22_2
     try clear hfz22_3
     try clear hfz22_4
     try clear hfz22_5
     try clear hfz22_6
     try clear hfz22_7
     try clear hfz22_8
     try clear hfz22_9
     try clear hfz24_0
     try clear hfz24_1
     try clear hfz24_2
     try clear hfz24_3
     try clear hfz24_4
     try clear hfz24_5
     try clear hfz24_6
     try clear hfz24_7
     try clear hfz24_8
     try clear hfz24_9
     try clear hfz25_0
     try clear hfz25_1
     try clear hfz25_2
     try clear hfz25_3
     try clear hfz25_4
     try clear hfz25_5
     try clear hfz25_6
     try clear hfz25_7
     try clear hfz25_8
     try clear hfz25_9
     try clear hfz27_0
     try clear hfz27_1
     try clear hfz27_2
     try clear hfz27_3
     try clear hfz27_4
     try clear hfz27_5
     try clear hfz27_6
     try clear hfz27_7
     try clear hfz27_8
     try clear hfz27_9
     try clear hfz28_0
     try clear hfz28_1
     try clear hfz28_2
     try clear hfz28_3
     try clear hfz28_4
     try clear hfz28_5
     try clear hfz28_6
     try clear hfz28_7
     try clear hfz28_8
     try clear hfz28_9
     try clear p2
     obtain ⟨x5_2,rfl,HA,HK2,BK110,BK111,HB⟩ := hrel
     cases gk with
     | zero => exact absurd HA.out (by simp [spec_SameState.l0])
     | succ k2 =>
      have H := HA.out
      clear HA
      simp only [spec_SameState.l0] at H
      by_cases c30 : x5_2 < (l0_2.length : Int)
      ·rw [if_pos c30] at H
       have c30b0 : decide (x5_2 < (l0_2.length : Int)) = true := decide_eq_true c30
       clear c30
       by_cases c31 : 0 ≤ x5_2
       ·rw [if_pos c31] at H
        have c31b0 : decide (0 ≤ x5_2) = true := decide_eq_true c31
        clear c31
        by_cases c32 : x5_2 < (l1_2.length : Int)
        ·rw [if_pos c32] at H
         have c32b0 : decide (x5_2 < (l1_2.length : Int)) = true := decide_eq_true c32
         clear c32
         by_cases c33 : (!(((rd_T120 l0_2 x5_2).f0) == ((rd_T120 l1_2 x5_2).f0)) || (!(((rd_T120 l0_2 x5_2).f1) == ((rd_T120 l1_2 x5_2).f1)) || (!(((rd_T120 l0_2 x5_2).f2) == ((rd_T120 l1_2 x5_2).f2)) || (!((((rd_T120 l0_2 x5_2).f3).toList) == (((rd_T120 l1_2 x5_2).f3).toList)))))) = true
         ·rw [if_pos c33] at H
          have c33b0 : (!(((rd_T120 l0_2 x5_2).f0) == ((rd_T120 l1_2 x5_2).f0)) || (!(((rd_T120 l0_2 x5_2).f1) == ((rd_T120 l1_2 x5_2).f1)) || (!(((rd_T120 l0_2 x5_2).f2) == ((rd_T120 l1_2 x5_2).f2)) || (!((((rd_T120 l0_2 x5_2).f3).toList) == (((rd_T120 l1_2 x5_2).f3).toList)))))) = true := c33
          clear c33
          obtain rfl := Option.some.inj H
          have hnb34 := NB110_111.out
          have hnc34 := NB111_110.out
          have hcz35_0 : wr.cell? ⟨gb110,0,none⟩ = some (.int .i64 a0_0) := (blk_cell BK110.out 0).trans rfl
          have hcz35_1 : wr.cell? ⟨gb110,1,none⟩ = some (.int .i64 a0_1) := (blk_cell BK110.out 1).trans rfl
          have hcz35_2 : wr.cell? ⟨gb110,2,none⟩ = some (.slice A0_2 l0_2.length c0_2) := (blk_cell BK110.out 2).trans rfl
          have hcz35_3 : wr.cell? ⟨gb110,3,none⟩ = some (.slice A0_3 l0_3.length c0_3) := (blk_cell BK110.out 3).trans rfl
          have hcz35_4 : wr.cell? ⟨gb110,4,none⟩ = some (.int .i64 a0_4) := (blk_cell BK110.out 4).trans rfl
          have hcz35_5 : wr.cell? ⟨gb110,5,none⟩ = some (.int .i64 a0_5) := (blk_cell BK110.out 5).trans rfl
          have hcz35_6 : wr.cell? ⟨gb110,6,none⟩ = some (.int .i64 a0_6) := (blk_cell BK110.out 6).trans rfl
          have hcz35_7 : wr.cell? ⟨gb110,7,none⟩ = some (.int .i64 a0_7) := (blk_cell BK110.out 7).trans rfl
          have hcz35_8 : wr.cell? ⟨gb110,8,none⟩ = some (.int .i64 a0_8) := (blk_cell BK110.out 8).trans rfl
          have hcz35_9 : wr.cell? ⟨gb110,9,none⟩ = some (.int .i64 a0_9) := (blk_cell BK110.out 9).trans rfl
          have hfz35_0 := blk_frozen BK110.out 0
          have hfz35_1 := blk_frozen BK110.out 1
          have hfz35_2 := blk_frozen BK110.out 2
          have hfz35_3 := blk_frozen BK110.out 3
          have hfz35_4 := blk_frozen BK110.out 4
          have hfz35_5 := blk_frozen BK110.out 5
          have hfz35_6 := blk_frozen BK110.out 6
          have hfz35_7 := blk_frozen BK110.out 7
          have hfz35_8 := blk_frozen BK110.out 8
          have hfz35_9 := blk_frozen BK110.out 9
          have p112 : 0 ≤ (x5_2 : Int) := of_decide_eq_true (by first | (with_reducible assumption) | assumption)
          have q112 : x5_2 < (l0_2.length : Int) := of_decide_eq_true (by first | (with_reducible assumption) | assumption)
          obtain ⟨ad112,e112,hx112_0,hx112_1,hx112_2,hx112_3⟩ := at_T120 HR0_2.out x5_2 p112 q112
          cases e112
          replace hx112_0 := (HB.out.cell (World.block_lt_of_cell? w _ hx112_0)).trans hx112_0
          replace hx112_1 := (HB.out.cell (World.block_lt_of_cell? w _ hx112_1)).trans hx112_1
          replace hx112_2 := (HB.out.cell (World.block_lt_of_cell? w _ hx112_2)).trans hx112_2
          replace hx112_3 := (HB.out.cell (World.block_lt_of_cell? w _ hx112_3)).trans hx112_3
          replace p112 := eq_true p112
          replace q112 := eq_true q112
          have hcz36_0 : wr.cell? ⟨gb111,0,none⟩ = some (.int .i64 a1_0) := (blk_cell BK111.out 0).trans rfl
          have hcz36_1 : wr.cell? ⟨gb111,1,none⟩ = some (.int .i64 a1_1) := (blk_cell BK111.out 1).trans rfl
          have hcz36_2 : wr.cell? ⟨gb111,2,none⟩ = some (.slice A1_2 l1_2.length c1_2) := (blk_cell BK111.out 2).trans rfl
          have hcz36_3 : wr.cell? ⟨gb111,3,none⟩ = some (.slice A1_3 l1_3.length c1_3) := (blk_cell BK111.out 3).trans rfl
          have hcz36_4 : wr.cell? ⟨gb111,4,none⟩ = some (.int .i64 a1_4) := (blk_cell BK111.out 4).trans rfl
          have hcz36_5 : wr.cell? ⟨gb111,5,none⟩ = some (.int .i64 a1_5) := (blk_cell BK111.out 5).trans rfl
          have hcz36_6 : wr.cell? ⟨gb111,6,none⟩ = some (.int .i64 a1_6) := (blk_cell BK111.out 6).trans rfl
          have hcz36_7 : wr.cell? ⟨gb111,7,none⟩ = some (.int .i64 a1_7) := (blk_cell BK111.out 7).trans rfl
          have hcz36_8 : wr.cell? ⟨gb111,8,none⟩ = some (.int .i64 a1_8) := (blk_cell BK111.out 8).trans rfl
          have hcz36_9 : wr.cell? ⟨gb111,9,none⟩ = some (.int .i64 a1_9) := (blk_cell BK111.out 9).trans rfl
          have hfz36_0 := blk_frozen BK111.out 0
          have hfz36_1 := blk_frozen BK111.out 1
          have hfz36_2 := blk_frozen BK111.out 2
          have hfz36_3 := blk_frozen BK111.out 3
          have hfz36_4 := blk_frozen BK111.out 4
          have hfz36_5 := blk_frozen BK111.out 5
          have hfz36_6 := blk_frozen BK111.out 6
          have hfz36_7 := blk_frozen BK111.out 7
          have hfz36_8 := blk_frozen BK111.out 8
          have hfz36_9 := blk_frozen BK111.out 9
          have p113 : 0 ≤ (x5_2 : Int) := of_decide_eq_true (by first | (with_reducible assumption) | assumption)
          have q113 : x5_2 < (l1_2.length : Int) := of_decide_eq_true (by first | (with_reducible assumption) | assumption)
          obtain ⟨ad113,e113,hx113_0,hx113_1,hx113_2,hx113_3⟩ := at_T120 HR1_2.out x5_2 p113 q113
          cases e113
          replace hx113_0 := (HB.out.cell (World.block_lt_of_cell? w _ hx113_0)).trans hx113_0
          replace hx113_1 := (HB.out.cell (World.block_lt_of_cell? w _ hx113_1)).trans hx113_1
          replace hx113_2 := (HB.out.cell (World.block_lt_of_cell? w _ hx113_2)).trans hx113_2
          replace hx113_3 := (HB.out.cell (World.block_lt_of_cell? w _ hx113_3)).trans hx113_3
          replace p113 := eq_true p113
          replace q113 := eq_true q113
          go_wp2
          repeat (go_quiet (fail); try go_wp2)
          go_ret
          exact ⟨by first | rfl | (simp only [i64_w,i32_w] <;> rfl) | (simp [errW_none,errW_some] <;> rfl) | (simp [*,errW_none,errW_some] <;> rfl),bA⟩
         ·rw [if_neg c33] at H
          have c33b0 : (!(((rd_T120 l0_2 x5_2).f0) == ((rd_T120 l1_2 x5_2).f0)) || (!(((rd_T120 l0_2 x5_2).f1) == ((rd_T120 l1_2 x5_2).f1)) || (!(((rd_T120 l0_2 x5_2).f2) == ((rd_T120 l1_2 x5_2).f2)) || (!((((rd_T120 l0_2 x5_2).f3).toList) == (((rd_T120 l1_2 x5_2).f3).toList)))))) = false := by simpa using c33
          clear c33
          have H' := Aside0.mk H
          clear H
          have hnb37 := NB110_111.out
          have hnc37 := NB111_110.out
          have hcz38_0 : wr.cell? ⟨gb110,0,none⟩ = some (.int .i64 a0_0) := (blk_cell BK110.out 0).trans rfl
          have hcz38_1 : wr.cell? ⟨gb110,1,none⟩ = some (.int .i64 a0_1) := (blk_cell BK110.out 1).trans rfl
          have hcz38_2 : wr.cell? ⟨gb110,2,none⟩ = some (.slice A0_2 l0_2.length c0_2) := (blk_cell BK110.out 2).trans rfl
          have hcz38_3 : wr.cell? ⟨gb110,3,none⟩ = some (.slice A0_3 l0_3.length c0_3) := (blk_cell BK110.out 3).trans rfl
          have hcz38_4 : wr.cell? ⟨gb110,4,none⟩ = some (.int .i64 a0_4) := (blk_cell BK110.out 4).trans rfl
          have hcz38_5 : wr.cell? ⟨gb110,5,none⟩ = some (.int .i64 a0_5) := (blk_cell BK110.out 5).trans rfl
          have hcz38_6 : wr.cell? ⟨gb110,6,none⟩ = some (.int .i64 a0_6) := (blk_cell BK110.out 6).trans rfl
          have hcz38_7 : wr.cell? ⟨gb110,7,none⟩ = some (.int .i64 a0_7) := (blk_cell BK110.out 7).trans rfl
          have hcz38_8 : wr.cell? ⟨gb110,8,none⟩ = some (.int .i64 a0_8) := (blk_cell BK110.out 8).trans rfl
          have hcz38_9 : wr.cell? ⟨gb110,9,none⟩ = some (.int .i64 a0_9) := (blk_cell BK110.out 9).trans rfl
          have hfz38_0 := blk_frozen BK110.out 0
          have hfz38_1 := blk_frozen BK110.out 1
          have hfz38_2 := blk_frozen BK110.out 2
          have hfz38_3 := blk_frozen BK110.out 3
          have hfz38_4 := blk_frozen BK110.out 4
          have hfz38_5 := blk_frozen BK110.out 5
          have hfz38_6 := blk_frozen BK110.out 6
          have hfz38_7 := blk_frozen BK110.out 7
          have hfz38_8 := blk_frozen BK110.out 8
          have hfz38_9 := blk_frozen BK110.out 9
          have p112 : 0 ≤ (x5_2 : Int) := of_decide_eq_true (by first | (with_reducible assumption) | assumption)
          have q112 : x5_2 < (l0_2.length : Int) := of_decide_eq_true (by first | (with_reducible assumption) | assumption)
          obtain ⟨ad112,e112,hx112_0,hx112_1,hx112_2,hx112_3⟩ := at_T120 HR0_2.out x5_2 p112 q112
          cases e112
          replace hx112_0 := (HB.out.cell (World.block_lt_of_cell? w _ hx112_0)).trans hx112_0
          replace hx112_1 := (HB.out.cell (World.block_lt_of_cell? w _ hx112_1)).trans hx112_1
          replace hx112_2 := (HB.out.cell (World.block_lt_of_cell? w _ hx112_2)).trans hx112_2
          replace hx112_3 := (HB.out.cell (World.block_lt_of_cell? w _ hx112_3)).trans hx112_3
          replace p112 := eq_true p112
          replace q112 := eq_true q112
          have hcz39_0 : wr.cell? ⟨gb111,0,none⟩ = some (.int .i64 a1_0) := (blk_cell BK111.out 0).trans rfl
          have hcz39_1 : wr.cell? ⟨gb111,1,none⟩ = some (.int .i64 a1_1) := (blk_cell BK111.out 1).trans rfl
          have hcz39_2 : wr.cell? ⟨gb111,2,none⟩ = some (.slice A1_2 l1_2.length c1_2) := (blk_cell BK111.out 2).trans rfl
          have hcz39_3 : wr.cell? ⟨gb111,3,none⟩ = some (.slice A1_3 l1_3.length c1_3) := (blk_cell BK111.out 3).trans rfl
          have hcz39_4 : wr.cell? ⟨gb111,4,none⟩ = some (.int .i64 a1_4) := (blk_cell BK111.out 4).trans rfl
          have hcz39_5 : wr.cell? ⟨gb111,5,none⟩ = some (.int .i64 a1_5) := (blk_cell BK111.out 5).trans rfl
          have hcz39_6 : wr.cell? ⟨gb111,6,none⟩ = some (.int .i64 a1_6) := (blk_cell BK111.out 6).trans rfl
          have hcz39_7 : wr.cell? ⟨gb111,7,none⟩ = some (.int .i64 a1_7) := (blk_cell BK111.out 7).trans rfl
          have hcz39_8 : wr.cell? ⟨gb111,8,none⟩ = some (.int .i64 a1_8) := (blk_cell BK111.out 8).trans rfl
          have hcz39_9 : wr.cell? ⟨gb111,9,none⟩ = some (.int .i64 a1_9) := (blk_cell BK111.out 9).trans rfl
          have hfz39_0 := blk_frozen BK111.out 0
          have hfz39_1 := blk_frozen BK111.out 1
          have hfz39_2 := blk_frozen BK111.out 2
          have hfz39_3 := blk_frozen BK111.out 3
          have hfz39_4 := blk_frozen BK111.out 4
          have hfz39_5 := blk_frozen BK111.out 5
          have hfz39_6 := blk_frozen BK111.out 6
          have hfz39_7 := blk_frozen BK111.out 7
          have hfz39_8 := blk_frozen BK111.out 8
          have hfz39_9 := blk_frozen BK111.out 9
          have p113 : 0 ≤ (x5_2 : Int) := of_decide_eq_true (by first | (with_reducible assumption) | assumption)
          have q113 : x5_2 < (l1_2.length : Int) := of_decide_eq_true (by first | (with_reducible assumption) | assumption)
          obtain ⟨ad113,e113,hx113_0,hx113_1,hx113_2,hx113_3⟩ := at_T120 HR1_2.out x5_2 p113 q113
          cases e113
          replace hx113_0 := (HB.out.cell (World.block_lt_of_cell? w _ hx113_0)).trans hx113_0
          replace hx113_1 := (HB.out.cell (World.block_lt_of_cell? w _ hx113_1)).trans hx113_1
          replace hx113_2 := (HB.out.cell (World.block_lt_of_cell? w _ hx113_2)).trans hx113_2
          replace hx113_3 := (HB.out.cell (World.block_lt_of_cell? w _ hx113_3)).trans hx113_3
          replace p113 := eq_true p113
          replace q113 := eq_true q113
          go_wp2
          repeat (go_quiet (fail); try go_wp2)
          go_roundg k2
          case measure => have := HJ2.out; have := HK2.out; omega
          case rel => exact ⟨(wrap64 (x5_2 + 1)),(by first | rfl | (simp; done) | (simp [*]; done)),H',⟨by have := HJ2.out; have := HK2.out; omega⟩,⟨kA BK110.out⟩,⟨kA BK111.out⟩,⟨bA⟩⟩
        ·rw [if_neg c32] at H
         exact absurd H (by simp)
       ·rw [if_neg c31] at H
        exact absurd H (by simp)
      ·rw [if_neg c30] at H
       have c30b0 : decide (x5_2 < (l0_2.length : Int)) = false := decide_eq_false c30
       clear c30
       have H' := Aside0.mk H
       clear H
       have hnb40 := NB110_111.out
       have hnc40 := NB111_110.out
       have hcz41_0 : wr.cell? ⟨gb110,0,none⟩ = some (.int .i64 a0_0) := (blk_cell BK110.out 0).trans rfl
       have hcz41_1 : wr.cell? ⟨gb110,1,none⟩ = some (.int .i64 a0_1) := (blk_cell BK110.out 1).trans rfl
       have hcz41_2 : wr.cell? ⟨gb110,2,none⟩ = some (.slice A0_2 l0_2.length c0_2) := (blk_cell BK110.out 2).trans rfl
       have hcz41_3 : wr.cell? ⟨gb110,3,none⟩ = some (.slice A0_3 l0_3.length c0_3) := (blk_cell BK110.out 3).trans rfl
       have hcz41_4 : wr.cell? ⟨gb110,4,none⟩ = some (.int .i64 a0_4) := (blk_cell BK110.out 4).trans rfl
       have hcz41_5 : wr.cell? ⟨gb110,5,none⟩ = some (.int .i64 a0_5) := (blk_cell BK110.out 5).trans rfl
       have hcz41_6 : wr.cell? ⟨gb110,6,none⟩ = some (.int .i64 a0_6) := (blk_cell BK110.out 6).trans rfl
       have hcz41_7 : wr.cell? ⟨gb110,7,none⟩ = some (.int .i64 a0_7) := (blk_cell BK110.out 7).trans rfl
       have hcz41_8 : wr.cell? ⟨gb110,8,none⟩ = some (.int .i64 a0_8) := (blk_cell BK110.out 8).trans rfl
       have hcz41_9 : wr.cell? ⟨gb110,9,none⟩ = some (.int .i64 a0_9) := (blk_cell BK110.out 9).trans rfl
       have hfz41_0 := blk_frozen BK110.out 0
       have hfz41_1 := blk_frozen BK110.out 1
       have hfz41_2 := blk_frozen BK110.out 2
       have hfz41_3 := blk_frozen BK110.out 3
       have hfz41_4 := blk_frozen BK110.out 4
       have hfz41_5 := blk_frozen BK110.out 5
       have hfz41_6 := blk_frozen BK110.out 6
       have hfz41_7 := blk_frozen BK110.out 7
       have hfz41_8 := blk_frozen BK110.out 8
       have hfz41_9 := blk_frozen BK110.out 9
       go_wp2
       repeat (go_quiet (fail); try go_wp2)
       go_loopg [6] k2 (fun kq v6 w' => ∃ (x6_3 : Int),v6 = .int .i64 x6_3 ∧ Aside0 (spec_SameState.l1 kq x6_3 a0_0 a0_1 l0_2 l0_3 a0_4 a0_5 a0_6 a0_7 a0_8 a0_9 a1_0 a1_1 l1_2 l1_3 a1_4 a1_5 a1_6 a1_7 a1_8 a1_9 = some r) ∧ Aside0 (kq ≤ k2) ∧ Aside0 (w'.heap[gb110]? = some (.cells #[.int .i64 a0_0,.int .i64 a0_1,(.slice A0_2 l0_2.length c0_2),(.slice A0_3 l0_3.length c0_3),.int .i64 a0_4,.int .i64 a0_5,.int .i64 a0_6,.int .i64 a0_7,.int .i64 a0_8,.int .i64 a0_9] 87 (0,0))) ∧ Aside0 (w'.heap[gb111]? = some (.cells #[.int .i64 a1_0,.int .i64 a1_1,(.slice A1_2 l1_2.length c1_2),(.slice A1_3 l1_3.length c1_3),.int .i64 a1_4,.int .i64 a1_5,.int .i64 a1_6,.int .i64 a1_7,.int .i64 a1_8,.int .i64 a1_9] 87 (0,0))) ∧ Aside0 (Below w.heap.size w w'))
       case atStart => exact ⟨(0),(by first | rfl | (simp; done) | (simp [*]; done)),H',⟨Nat.le_refl _⟩,⟨kA BK110.out⟩,⟨kA BK111.out⟩,⟨bA⟩⟩
       case round =>
        clear H'
        try clear c1
        try clear p1
        try clear q1
        try clear hx1
        try clear c2
        try clear p2
        try clear c3
        try clear c4
        try clear c6
        try clear c6b0
        try clear c6b1
        try clear p6
        try clear c7
        try clear c7b0
        try clear c7b1
        try clear c8
        try clear c8b0
        try clear c9
        try clear p11
        try clear q11
        try clear hx11
        try clear c12
        try clear c12b0
        try clear c13
        try clear c16
        try clear c16b0
        try clear c16b1
        try clear c16b2
        try clear c17
        try clear c20
        try clear c23
        try clear c26
        try clear c29
        try clear c30
        try clear c30b0
        try clear c31
        try clear c31b0
        try clear c32
        try clear c32b0
        try clear c33
        try clear c33b0
        try clear c34
        try clear c37
        try clear c40
        try clear hcz10_0
        try clear hcz10_1
        try clear hcz10_2
        try clear hcz10_3
        try clear hcz10_4
        try clear hcz10_5
        try clear hcz10_6
        try clear hcz10_7
        try clear hcz10_8
        try clear hcz10_9
        try clear hcz11_0
        try clear hcz11_1
        try clear hcz11_2
        try clear hcz11_3
        try clear hcz11_4
        try clear hcz11_5
        try clear hcz11_6
        try clear hcz11_7
        try clear hcz11_8
        try clear hcz11_9
        try clear hcz14_0
        try clear hcz14_1
        try clear hcz14_2
        try clear hcz14_3
        try clear hcz14_4
        try clear hcz14_5
        try clear hcz14_6
        try clear hcz14_7
        try clear hcz14_8
        try clear hcz14_9
        try clear hcz15_0
        try clear hcz15_1
        try clear hcz15_2
        try clear hcz15_3
        try clear hcz15_4
        try clear hcz15_5
        try clear hcz15_6
        try clear hcz15_7
        try clear hcz15_8
        try clear hcz15_9
        try clear hcz18_0
        try clear hcz18_1
        try clear hcz18_2
        try clear hcz18_3
        try clear hcz18_4
        try clear hcz18_5
        try clear hcz18_6
        try clear hcz18_7
        try clear hcz18_8
        try clear hcz18_9
        try clear hcz19_0
        try clear hcz19_1
        try clear hcz19_2
        try clear hcz19_3
        try clear hcz19_4
        try clear hcz19_5
        try clear hcz19_6
        try clear hcz19_7
        try clear hcz19_8
        try clear hcz19_9
        try clear hcz21_0
        try clear hcz21_1
        try clear hcz21_2
        try clear hcz21_3
        try clear hcz21_4
        try clear hcz21_5
        try clear hcz21_6
        try clear hcz21_7
        try clear hcz21_8
        try clear hcz21_9
        try clear hcz22_0
        try clear hcz22_1
        try clear hcz22_2
        try clear hcz22_3
        try clear hcz22_4
        try clear hcz22_5
        try clear hcz22_6
        try clear hcz22_7
        try clear hcz22_8
        try clear hcz22_9
        try clear hcz24_0
        try clear hcz24_1
        try clear hcz24_2
        try clear hcz24_3
        try clear hcz24_4
        try clear hcz24_5
        try clear hcz24_6
        try clear hcz24_7
        try clear hcz24_8
        try clear hcz24_9
        try clear hcz25_0
        try clear hcz25_1
        try clear hcz25_2
        try clear hcz25_3
        try clear hcz25_4
        try clear hcz25_5
        try clear hcz25_6
        try clear hcz25_7
        try clear hcz25_8
        try clear hcz25_9
        try clear hcz27_0
        try clear hcz27_1
        try clear hcz27_2
        try clear hcz27_3
        try clear hcz27_4
        try clear hcz27_5
        try clear hcz27_6
        try clear hcz27_7
        try clear hcz27_8
        try clear hcz27_9
        try clear hcz28_0
        try clear hcz28_1
        try clear hcz28_2
        try clear hcz28_3
        try clear hcz28_4
        try clear hcz28_5
        try clear hcz28_6
        try clear hcz28_7
        try clear hcz28_8
        try clear hcz28_9
        try clear hcz35_0
        try clear hcz35_1
        try clear hcz35_2
        try clear hcz35_3
        try clear hcz35_4
        try clear hcz35_5
        try clear hcz35_6
        try clear hcz35_7
        try clear hcz35_8
        try clear hcz35_9
        try clear hcz36_0
        try clear hcz36_1
        try clear hcz36_2
        try clear hcz36_3
        try clear hcz36_4
        try clear hcz36_5
        try clear hcz36_6
        try clear hcz36_7
        try clear hcz36_8
        try clear hcz36_9
        try clear hcz38_0
        try clear hcz38_1
        try clear hcz38_2
        try clear hcz38_3
        try clear hcz38_4
        try clear hcz38_5
        try clear hcz38_6
        try clear hcz38_7
        try clear hcz38_8
        try clear hcz38_9
        try clear hcz39_0
        try clear hcz39_1
        try clear hcz39_2
        try clear hcz39_3
        try clear hcz39_4
        try clear hcz39_5
        try clear hcz39_6
        try clear hcz39_7
        try clear hcz39_8
        try clear hcz39_9
        try clear hcz41_0
        try clear hcz41_1
        try clear hcz41_2
        try clear hcz41_3
        try clear hcz41_4
        try clear hcz41_5
        try clear hcz41_6
        try clear hcz41_7
        try clear hcz41_8
        try clear hcz41_9
        try clear hfz10_0
        try clear hfz10_1
        try clear hfz10_2
        try clear hfz10_3
        try clear hfz10_4
        try clear hfz10_5
        try clear hfz10_6
        try clear hfz10_7
        try clear hfz10_8
        try clear hfz10_9
        try clear hfz11_0
        try clear hfz11_1
        try clear hfz11_2
        try clear hfz11_3
        try clear hfz11_4
        try clear hfz11_5
        try clear hfz11_6
        try clear hfz11_7
        try clear hfz11_8
        try clear hfz11_9
        try clear hfz14_0
        try clear hfz14_1
        try clear hfz14_2
        try clear hfz14_3
        try clear hfz14_4
        try clear hfz14_5
        try clear hfz14_6
        try clear hfz14_7
        try clear hfz14_8
        try clear hfz14_9
        try clear hfz15_0
        try clear hfz15_1
        try clear hfz15_2
        try clear hfz15_3
        try clear hfz15_4
        try clear hfz15_5
        try clear hfz15_6
        try clear hfz15_7
        try clear hfz15_8
        try clear hfz15_9
        try clear hfz18_0
        try clear hfz18_1
        try clear hfz18_2
        try clear hfz18_3
        try clear hfz18_4
        try clear hfz18_5
        try clear hfz18_6
        try clear hfz18_7
        try clear hfz18_8
        try clear hfz18_9
        try clear hfz19_0
        try clear hfz19_1
        try clear hfz19_2
        try clear hfz19_3
        try clear hfz19_4
        try clear hfz19_5
        try clear hfz19_6
        try clear hfz19_7
        try clear hfz19_8
        try clear hfz19_9
        try clear hfz21_0
        try clear hfz21_1
        try clear hfz21_2
        try clear hfz21_3
        try clear hfz21_4
        try clear hfz21_5
        try clear hfz21_6
        try clear hfz21_7
        try clear hfz21_8
        try clear hfz21_9
        try clear hfz22_0
        try clear hfz22_1
        try clear hfz22_2
        try clear hfz22_3
        try clear hfz22_4
        try clear hfz22_5
        try clear hfz22_6
        try clear hfz22_7
        try clear hfz22_8
        try clear hfz22_9
        try clear hfz24_0
        try clear hfz24_1
        try clear hfz24_2
        try clear hfz24_3
        try clear hfz24_4
        try clear hfz24_5
        try clear hfz24_6
        try clear hfz24_7
        try clear hfz24_8
        try clear hfz24_9
        try clear hfz25_0
        try clear hfz25_1
        try clear hfz25_2
        try clear hfz25_3
        try clear hfz25_4
        try clear hfz25_5
        try clear hfz25_6
        try clear hfz25_7
        try clear hfz25_8
        try clear hfz25_9
        try clear hfz27_0
        try clear hfz27_1
        try clear hfz27_2
        try clear hfz27_3
        try clear hfz27_4
        try clear hfz27_5
        try clear hfz27_6
        try clear hfz27_7
        try clear hfz27_8
        try clear hfz27_9
        try clear hfz28_0
        try clear hfz28_1
        try clear hfz28_2
        try clear hfz28_3
        try clear hfz28_4
        try clear hfz28_5
        try clear hfz28_6
        try clear hfz28_7
        try clear hfz28_8
        try clear hfz28_9
        try clear hfz35_0
        try clear hfz35_1
        try clear hfz35_2
        try clear hfz35_3
        try clear hfz35_4
        try clear hfz35_5
        try clear hfz35_6
        try clear hfz35_7
        try clear hfz35_8
        try clear hfz35_9
        try clear hfz36_0
        try clear hfz36_1
        try clear hfz36_2
        try clear hfz36_3
        try clear hfz36_4
        try clear hfz36_5
        try clear hfz36_6
        try clear hfz36_7
        try clear hfz36_8
        try clear hfz36_9
        try clear hfz38_0
        try clear hfz38_1
        try clear hfz38_2
        try clear hfz38_3
        try clear hfz38_4
        try clear hfz38_5
        try clear hfz38_6
        try clear hfz38_7
        try clear hfz38_8
        try clear hfz38_9
        try clear hfz39_0
        try clear hfz39_1
        try clear hfz39_2
        try clear hfz39_3
        try clear hfz39_4
        try clear hfz39_5
        try clear hfz39_6
        try clear hfz39_7
        try clear hfz39_8
        try clear hfz39_9
        try clear hfz41_0
        try clear hfz41_1
        try clear hfz41_2
        try clear hfz41_3
        try clear hfz41_4
        try clear hfz41_5
        try clear hfz41_6
        try clear hfz41_7
        try clear hfz41_8
        try clear hfz41_9
        try clear hx112_0
        try clear hx112_1
        try clear hx112_2
        try clear hx112_3
        try clear hx113_0
        try clear hx113_1
        try clear hx113_2
        try clear hx113_3
        try clear p112
        try clear p113
        try clear p2
        try clear q112
        try clear q113
        obtain ⟨x6_3,rfl,HA,HK3,BK110,BK111,HB⟩ := hrel
        cases gk with
        | zero => exact absurd HA.out (by simp [spec_SameState.l1])
        | succ k3 =>
         have H := HA.out
         clear HA
         simp only [spec_SameState.l1] at H
         by_cases c42 : x6_3 < (l0_3.length : Int)
         ·rw [if_pos c42] at H
          have c42b0 : decide (x6_3 < (l0_3.length : Int)) = true := decide_eq_true c42
          clear c42
          by_cases c43 : 0 ≤ x6_3
          ·rw [if_pos c43] at H
           have c43b0 : decide (0 ≤ x6_3) = true := decide_eq_true c43
           clear c43
           by_cases c44 : x6_3 < (l1_3.length : Int)
           ·rw [if_pos c44] at H
            have c44b0 : decide (x6_3 < (l1_3.length : Int)) = true := decide_eq_true c44
            clear c44
            by_cases c45 : (!(((rd_T126 l0_3 x6_3).f0) == ((rd_T126 l1_3 x6_3).f0)) || (!((((rd_T126 l0_3 x6_3).f1).toList) == (((rd_T126 l1_3 x6_3).f1).toList)))) = true
            ·rw [if_pos c45] at H
             have c45b0 : (!(((rd_T126 l0_3 x6_3).f0) == ((rd_T126 l1_3 x6_3).f0)) || (!((((rd_T126 l0_3 x6_3).f1).toList) == (((rd_T126 l1_3 x6_3).f1).toList)))) = true := c45
             clear c45
             obtain rfl := Option.some.inj H
             have hnb46 := NB110_111.out
             have hnc46 := NB111_110.out
             have hcz47_0 : wr.cell? ⟨gb110,0,none⟩ = some (.int .i64 a0_0) := (blk_cell BK110.out 0).trans rfl
             have hcz47_1 : wr.cell? ⟨gb110,1,none⟩ = some (.int .i64 a0_1) := (blk_cell BK110.out 1).trans rfl
             have hcz47_2 : wr.cell? ⟨gb110,2,none⟩ = some (.slice A0_2 l0_2.length c0_2) := (blk_cell BK110.out 2).trans rfl
             have hcz47_3 : wr.cell? ⟨gb110,3,none⟩ = some (.slice A0_3 l0_3.length c0_3) := (blk_cell BK110.out 3).trans rfl
             have hcz47_4 : wr.cell? ⟨gb110,4,none⟩ = some (.int .i64 a0_4) := (blk_cell BK110.out 4).trans rfl
             have hcz47_5 : wr.cell? ⟨gb110,5,none⟩ = some (.int .i64 a0_5) := (blk_cell BK110.out 5).trans rfl
             have hcz47_6 : wr.cell? ⟨gb110,6,none⟩ = some (.int .i64 a0_6) := (blk_cell BK110.out 6).trans rfl
             have hcz47_7 : wr.cell? ⟨gb110,7,none⟩ = some (.int .i64 a0_7) := (blk_cell BK110.out 7).trans rfl
             have hcz47_8 : wr.cell? ⟨gb110,8,none⟩ = some (.int .i64 a0_8) := (blk_cell BK110.out 8).trans rfl
             have hcz47_9 : wr.cell? ⟨gb110,9,none⟩ = some (.int .i64 a0_9) := (blk_cell BK110.out 9).trans rfl
             have hfz47_0 := blk_frozen BK110.out 0
             have hfz47_1 := blk_frozen BK110.out 1
             have hfz47_2 := blk_frozen BK110.out 2
             have hfz47_3 := blk_frozen BK110.out 3
             have hfz47_4 := blk_frozen BK110.out 4
             have hfz47_5 := blk_frozen BK110.out 5
             have hfz47_6 := blk_frozen BK110.out 6
             have hfz47_7 := blk_frozen BK110.out 7
             have hfz47_8 := blk_frozen BK110.out 8
             have hfz47_9 := blk_frozen BK110.out 9
             have p114 : 0 ≤ (x6_3 : Int) := of_decide_eq_true (by first | (with_reducible assumption) | assumption)
             have q114 : x6_3 < (l0_3.length : Int) := of_decide_eq_true (by first | (with_reducible assumption) | assumption)
             obtain ⟨ad114,e114,hx114_0,hx114_1⟩ := at_T126 HR0_3.out x6_3 p114 q114
             cases e114
             replace hx114_0 := (HB.out.cell (World.block_lt_of_cell? w _ hx114_0)).trans hx114_0
             replace hx114_1 := (HB.out.cell (World.block_lt_of_cell? w _ hx114_1)).trans hx114_1
             replace p114 := eq_true p114
             replace q114 := eq_true q114
             have hcz48_0 : wr.cell? ⟨gb111,0,none⟩ = some (.int .i64 a1_0) := (blk_cell BK111.out 0).trans rfl
             have hcz48_1 : wr.cell? ⟨gb111,1,none⟩ = some (.int .i64 a1_1) := (blk_cell BK111.out 1).trans rfl
             have hcz48_2 : wr.cell? ⟨gb111,2,none⟩ = some (.slice A1_2 l1_2.length c1_2) := (blk_cell BK111.out 2).trans rfl
             have hcz48_3 : wr.cell? ⟨gb111,3,none⟩ = some (.slice A1_3 l1_3.length c1_3) := (blk_cell BK111.out 3).trans rfl
             have hcz48_4 : wr.cell? ⟨gb111,4,none⟩ = some (.int .i64 a1_4) := (blk_cell BK111.out 4).trans rfl
             have hcz48_5 : wr.cell? ⟨gb111,5,none⟩ = some (.int .i64 a1_5) := (blk_cell BK111.out 5).trans rfl
             have hcz48_6 : wr.cell? ⟨gb111,6,none⟩ = some (.int .i64 a1_6) := (blk_cell BK111.out 6).trans rfl
             have hcz48_7 : wr.cell? ⟨gb111,7,none⟩ = some (.int .i64 a1_7) := (blk_cell BK111.out 7).trans rfl
             have hcz48_8 : wr.cell? ⟨gb111,8,none⟩ = some (.int .i64 a1_8) := (blk_cell BK111.out 8).trans rfl
             have hcz48_9 : wr.cell? ⟨gb111,9,none⟩ = some (.int .i64 a1_9) := (blk_cell BK111.out 9).trans rfl
             have hfz48_0 := blk_frozen BK111.out 0
             have hfz48_1 := blk_frozen BK111.out 1
             have hfz48_2 := blk_frozen BK111.out 2
             have hfz48_3 := blk_frozen BK111.out 3
             have hfz48_4 := blk_frozen BK111.out 4
             have hfz48_5 := blk_frozen BK111.out 5
             have hfz48_6 := blk_frozen BK111.out 6
             have hfz48_7 := blk_frozen BK111.out 7
             have hfz48_8 := blk_frozen BK111.out 8
             have hfz48_9 := blk_frozen BK111.out 9
             have p115 : 0 ≤ (x6_3 : Int) := of_decide_eq_true (by first | (with_reducible assumption) | assumption)
             have q115 : x6_3 < (l1_3.length : Int) := of_decide_eq_true (by first | (with_reducible assumption) | assumption)
             obtain ⟨ad115,e115,hx115_0,hx115_1⟩ := at_T126 HR1_3.out x6_3 p115 q115
             cases e115
             replace hx115_0 := (HB.out.cell (World.block_lt_of_cell? w _ hx115_0)).trans hx115_0
             replace hx115_1 := (HB.out.cell (World.block_lt_of_cell? w _ hx115_1)).trans hx115_1
             replace p115 := eq_true p115
             replace q115 := eq_true q115
             go_wp2
             repeat (go_quiet (fail); try go_wp2)
             go_ret
             exact ⟨by first | rfl | (simp only [i64_w,i32_w] <;> rfl) | (simp [errW_none,errW_some] <;> rfl) | (simp [*,errW_none,errW_some] <;> rfl),bA⟩
            ·rw [if_neg c45] at H
             have c45b0 : (!(((rd_T126 l0_3 x6_3).f0) == ((rd_T126 l1_3 x6_3).f0)) || (!((((rd_T126 l0_3 x6_3).f1).toList) == (((rd_T126 l1_3 x6_3).f1).toList)))) = false := by simpa using c45
             clear c45
             have H' := Aside0.mk H
             clear H
             have hnb49 := NB110_111.out
             have hnc49 := NB111_110.out
             have hcz50_0 : wr.cell? ⟨gb110,0,none⟩ = some (.int .i64 a0_0) := (blk_cell BK110.out 0).trans rfl
             have hcz50_1 : wr.cell? ⟨gb110,1,none⟩ = some (.int .i64 a0_1) := (blk_cell BK110.out 1).trans rfl
             have hcz50_2 : wr.cell? ⟨gb110,2,none⟩ = some (.slice A0_2 l0_2.length c0_2) := (blk_cell BK110.out 2).trans rfl
             have hcz50_3 : wr.cell? ⟨gb110,3,none⟩ = some (.slice A0_3 l0_3.length c0_3) := (blk_cell BK110.out 3).trans rfl
             have hcz50_4 : wr.cell? ⟨gb110,4,none⟩ = some (.int .i64 a0_4) := (blk_cell BK110.out 4).trans rfl
             have hcz50_5 : wr.cell? ⟨gb110,5,none⟩ = some (.int .i64 a0_5) := (blk_cell BK110.out 5).trans rfl
             have hcz50_6 : wr.cell? ⟨gb110,6,none⟩ = some (.int .i64 a0_6) := (blk_cell BK110.out 6).trans rfl
             have hcz50_7 : wr.cell? ⟨gb110,7,none⟩ = some (.int .i64 a0_7) := (blk_cell BK110.out 7).trans rfl
             have hcz50_8 : wr.cell? ⟨gb110,8,none⟩ = some (.int .i64 a0_8) := (blk_cell BK110.out 8).trans rfl
             have hcz50_9 : wr.cell? ⟨gb110,9,none⟩ = some (.int .i64 a0_9) := (blk_cell BK110.out 9).trans rfl
             have hfz50_0 := blk_frozen BK110.out 0
             have hfz50_1 := blk_frozen BK110.out 1
             have hfz50_2 := blk_frozen BK110.out 2
             have hfz50_3 := blk_frozen BK110.out 3
             have hfz50_4 := blk_frozen BK110.out 4
             have hfz50_5 := blk_frozen BK110.out 5
             have hfz50_6 := blk_frozen BK110.out 6
             have hfz50_7 := blk_frozen BK110.out 7
             have hfz50_8 := blk_frozen BK110.out 8
             have hfz50_9 := blk_frozen BK110.out 9
             have p114 : 0 ≤ (x6_3 : Int) := of_decide_eq_true (by first | (with_reducible assumption) | assumption)
             have q114 : x6_3 < (l0_3.length : Int) := of_decide_eq_true (by first | (with_reducible assumption) | assumption)
             obtain ⟨ad114,e114,hx114_0,hx114_1⟩ := at_T126 HR0_3.out x6_3 p114 q114
             cases e114
             replace hx114_0 := (HB.out.cell (World.block_lt_of_cell? w _ hx114_0)).trans hx114_0
             replace hx114_1 := (HB.out.cell (World.block_lt_of_cell? w _ hx114_1)).trans hx114_1
             replace p114 := eq_true p114
             replace q114 := eq_true q114
             have hcz51_0 : wr.cell? ⟨gb111,0,none⟩ = some (.int .i64 a1_0) := (blk_cell BK111.out 0).trans rfl
             have hcz51_1 : wr.cell? ⟨gb111,1,none⟩ = some (.int .i64 a1_1) := (blk_cell BK111.out 1).trans rfl
             have hcz51_2 : wr.cell? ⟨gb111,2,none⟩ = some (.slice A1_2 l1_2.length c1_2) := (blk_cell BK111.out 2).trans rfl
             have hcz51_3 : wr.cell? ⟨gb111,3,none⟩ = some (.slice A1_3 l1_3.length c1_3) := (blk_cell BK111.out 3).trans rfl
             have hcz51_4 : wr.cell? ⟨gb111,4,none⟩ = some (.int .i64 a1_4) := (blk_cell BK111.out 4).trans rfl
             have hcz51_5 : wr.cell? ⟨gb111,5,none⟩ = some (.int .i64 a1_5) := (blk_cell BK111.out 5).trans rfl
             have hcz51_6 : wr.cell? ⟨gb111,6,none⟩ = some (.int .i64 a1_6) := (blk_cell BK111.out 6).trans rfl
             have hcz51_7 : wr.cell? ⟨gb111,7,none⟩ = some (.int .i64 a1_7) := (blk_cell BK111.out 7).trans rfl
             have hcz51_8 : wr.cell? ⟨gb111,8,none⟩ = some (.int .i64 a1_8) := (blk_cell BK111.out 8).trans rfl
             have hcz51_9 : wr.cell? ⟨gb111,9,none⟩ = some (.int .i64 a1_9) := (blk_cell BK111.out 9).trans rfl
             have hfz51_0 := blk_frozen BK111.out 0
             have hfz51_1 := blk_frozen BK111.out 1
             have hfz51_2 := blk_frozen BK111.out 2
             have hfz51_3 := blk_frozen BK111.out 3
             have hfz51_4 := blk_frozen BK111.out 4
             have hfz51_5 := blk_frozen BK111.out 5
             have hfz51_6 := blk_frozen BK111.out 6
             have hfz51_7 := blk_frozen BK111.out 7
             have hfz51_8 := blk_frozen BK111.out 8
             have hfz51_9 := blk_frozen BK111.out 9
             have p115 : 0 ≤ (x6_3 : Int) := of_decide_eq_true (by first | (with_reducible assumption) | assumption)
             have q115 : x6_3 < (l1_3.length : Int) := of_decide_eq_true (by first | (with_reducible assumption) | assumption)
             obtain ⟨ad115,e115,hx115_0,hx115_1⟩ := at_T126 HR1_3.out x6_3 p115 q115
             cases e115
             replace hx115_0 := (HB.out.cell (World.block_lt_of_cell? w _ hx115_0)).trans hx115_0
             replace hx115_1 := (HB.out.cell (World.block_lt_of_cell? w _ hx115_1)).trans hx115_1
             replace p115 := eq_true p115
             replace q115 := eq_true q115
             go_wp2
             repeat (go_quiet (fail); try go_wp2)
             go_roundg k3
             case measure => have := HJ2.out; have := HK2.out; have := HK3.out; omega
             case rel => exact ⟨(wrap64 (x6_3 + 1)),(by first | rfl | (simp; done) | (simp [*]; done)),H',⟨by have := HJ2.out; have := HK2.out; have := HK3.out; omega⟩,⟨kA BK110.out⟩,⟨kA BK111.out⟩,⟨bA⟩⟩
           ·rw [if_neg c44] at H
            exact absurd H (by simp)
          ·rw [if_neg c43] at H
           exact absurd H (by simp)
         ·rw [if_neg c42] at H
          have c42b0 : decide (x6_3 < (l0_3.length : Int)) = false := decide_eq_false c42
          clear c42
          obtain rfl := Option.some.inj H
          have hnb52 := NB110_111.out
          have hnc52 := NB111_110.out
          have hcz53_0 : wr.cell? ⟨gb110,0,none⟩ = some (.int .i64 a0_0) := (blk_cell BK110.out 0).trans rfl
          have hcz53_1 : wr.cell? ⟨gb110,1,none⟩ = some (.int .i64 a0_1) := (blk_cell BK110.out 1).trans rfl
          have hcz53_2 : wr.cell? ⟨gb110,2,none⟩ = some (.slice A0_2 l0_2.length c0_2) := (blk_cell BK110.out 2).trans rfl
          have hcz53_3 : wr.cell? ⟨gb110,3,none⟩ = some (.slice A0_3 l0_3.length c0_3) := (blk_cell BK110.out 3).trans rfl
          have hcz53_4 : wr.cell? ⟨gb110,4,none⟩ = some (.int .i64 a0_4) := (blk_cell BK110.out 4).trans rfl
          have hcz53_5 : wr.cell? ⟨gb110,5,none⟩ = some (.int .i64 a0_5) := (blk_cell BK110.out 5).trans rfl
          have hcz53_6 : wr.cell? ⟨gb110,6,none⟩ = some (.int .i64 a0_6) := (blk_cell BK110.out 6).trans rfl
          have hcz53_7 : wr.cell? ⟨gb110,7,none⟩ = some (.int .i64 a0_7) := (blk_cell BK110.out 7).trans rfl
          have hcz53_8 : wr.cell? ⟨gb110,8,none⟩ = some (.int .i64 a0_8) := (blk_cell BK110.out 8).trans rfl
          have hcz53_9 : wr.cell? ⟨gb110,9,none⟩ = some (.int .i64 a0_9) := (blk_cell BK110.out 9).trans rfl
          have hfz53_0 := blk_frozen BK110.out 0
          have hfz53_1 := blk_frozen BK110.out 1
          have hfz53_2 := blk_frozen BK110.out 2
          have hfz53_3 := blk_frozen BK110.out 3
          have hfz53_4 := blk_frozen BK110.out 4
          have hfz53_5 := blk_frozen BK110.out 5
          have hfz53_6 := blk_frozen BK110.out 6
          have hfz53_7 := blk_frozen BK110.out 7
          have hfz53_8 := blk_frozen BK110.out 8
          have hfz53_9 := blk_frozen BK110.out 9
          go_wp2
          repeat (go_quiet (fail); try go_wp2)
          go_ret
          exact ⟨by first | rfl | (simp only [i64_w,i32_w] <;> rfl) | (simp [errW_none,errW_some] <;> rfl) | (simp [*,errW_none,errW_some] <;> rfl),bA⟩

end Go.Proofs.Yteiolcfgaklafaa.XFnExactSameState
