-- Printed by this session's own program wip/tools/xprint.py, which widens the kit's print. Not trusted: Lean checks it.
import Derived.Test.YtfondhlknkhmmaaGreatDoorXFnExactOrphansOfx0
import Derived.Test.YtfondhlknkhmmaaGreatDoorXFnExactOrphansOfx1
import Derived.Test.YtfondhlknkhmmaaGreatDoorXFnExactOrphansOfx7
import Derived.Test.YtfondhlknkhmmaaGreatDoorXFnExactOrphansOfx11
import Derived.Test.YtfondhlknkhmmaaGreatDoorXFnExactOrphansOfx13
import Derived.Test.YtfondhlknkhmmaaGreatDoorXFnExactOrphansOfx14
namespace Go.Proofs.YtfondhlknkhmmaaGreatDoor.XFnExactOrphansOf
open List (setIfInBounds_toArray set_cons_zero set_cons_succ)
open Go.RowKit Go.Proofs.YtfondhlknkhmmaaGreatDoorW.PrintWords Go.Proofs.YtfondhlknkhmmaaGreatDoorW.PrintLast Go.Proofs.YtfondhlknkhmmaaGreatDoorW.PrintMore
attribute [local go_sem] max2_int min2_int max_two min_two max_three min_three max_four min_four   -- for this text's walks alone
set_option linter.unusedVariables false
set_option linter.unusedSimpArgs false

/-! ### laws_FnExactOrphansOf: function 3 -/
mutual
def laws_FnExactOrphansOf.j0 : Nat → List ByteArray → List ByteArray → Int → List ByteArray → List ByteArray → Int → Bool → Int → Int → List (S59) → List (S62) → Int → Int → Int → Int → Int → Int → Int → Int → List (S64) → List (S71) → Int → Int → Int → Int → Int → Int → Option (Bool)
 | 0,_,_,_,_,_,_,_,_,_,_,_,_,_,_,_,_,_,_,_,_,_,_,_,_,_,_,_ => none
 | k + 1,x1,x6,x7,x9,x10,x11,x53,x393000,x393001,x393002,x393003,x393004,x393005,x393006,x393007,x393008,x393009,x431000,x431001,x431002,x431003,x431004,x431005,x431006,x431007,x431008,x431009 => if x53 = true then (none) else ((laws_toState.f k x393000 x393001 x393002 x393003 x393004 x393005 x393006 x393007 x393008 x393009).bind fun bt439 => ((laws_eqState.f k x431000 x431001 x431002 x431003 x431004 x431005 x431006 x431007 x431008 x431009 bt439.1 bt439.2.1 bt439.2.2.1 bt439.2.2.2.1 bt439.2.2.2.2.1 bt439.2.2.2.2.2.1 bt439.2.2.2.2.2.2.1 bt439.2.2.2.2.2.2.2.1 bt439.2.2.2.2.2.2.2.2.1 bt439.2.2.2.2.2.2.2.2.2).bind fun t453 => (if t453 = true then ((laws_toStringS.f k x1).bind fun t454 => ((laws_eqStringS.f k x9 t454).bind fun t457 => (if t457 = true then ((laws_markState.f k x431000 x431001 x431002 x431003 x431004 x431005 x431006 x431007 x431008 x431009 1).bind fun bt458 => ((laws_markStringS.f k x9 bt458.1).bind fun bt461 => (if bt461.1 < 0 then (laws_FnExactOrphansOf.j1 k x1 x6 x7 x10 true x393000 x393001 x393002 x393003 x393004 x393005 x393006 x393007 x393008 x393009) else ((laws_eqStringS.f k x10 x6).bind fun t463 => (if t463 = true then (laws_FnExactOrphansOf.j1 k x1 x6 x7 x10 (x11 != x7) x393000 x393001 x393002 x393003 x393004 x393005 x393006 x393007 x393008 x393009) else (laws_FnExactOrphansOf.j1 k x1 x6 x7 x10 true x393000 x393001 x393002 x393003 x393004 x393005 x393006 x393007 x393008 x393009)))))) else (none)))) else (none))))
def laws_FnExactOrphansOf.j1 : Nat → List ByteArray → List ByteArray → Int → List ByteArray → Bool → Int → Int → List (S59) → List (S62) → Int → Int → Int → Int → Int → Int → Option (Bool)
 | 0,_,_,_,_,_,_,_,_,_,_,_,_,_,_,_ => none
 | k + 1,x1,x6,x7,x10,x82,x393000,x393001,x393002,x393003,x393004,x393005,x393006,x393007,x393008,x393009 => if x82 = true then (none) else ((laws_markStringS.f k x10 1).bind fun bt464 => ((laws_heldStringS.f k bt464.2 1).bind fun t466 => (if t466 < 0 then (none) else (if t466 = bt464.1 then ((laws_toState.f k x393000 x393001 x393002 x393003 x393004 x393005 x393006 x393007 x393008 x393009).bind fun bt467 => ((laws_toStringS.f k x1).bind fun t481 => ((impl_OrphansOf.f k bt467.1 bt467.2.1 bt467.2.2.1 bt467.2.2.2.1 bt467.2.2.2.2.1 bt467.2.2.2.2.2.1 bt467.2.2.2.2.2.2.1 bt467.2.2.2.2.2.2.2.1 bt467.2.2.2.2.2.2.2.2.1 bt467.2.2.2.2.2.2.2.2.2 t481).bind fun bt484 => ((laws_eqStringS.f k bt484.1 x6).bind fun t488 => (if t488 = true then (laws_FnExactOrphansOf.j2 k bt464.2 bt464.1 (bt484.2 != x7)) else (laws_FnExactOrphansOf.j2 k bt464.2 bt464.1 true)))))) else (none)))))
def laws_FnExactOrphansOf.j2 : Nat → List ByteArray → Int → Bool → Option (Bool)
 | 0,_,_,_ => none
 | k + 1,x10,x13,x110 => if x110 = true then (none) else ((laws_heldStringS.f k x10 1).bind fun t489 => (if t489 < 0 then (none) else (if t489 = x13 then (some true) else (none))))
end
def laws_FnExactOrphansOf.f (k : Nat) (a0_0 : Int) (a0_1 : Int) (l0_2 : List (S59)) (l0_3 : List (S62)) (a0_4 : Int) (a0_5 : Int) (a0_6 : Int) (a0_7 : Int) (a0_8 : Int) (a0_9 : Int) (l1 : List ByteArray) : Option (Bool) := (laws_szState.f k a0_0 a0_1 l0_2 l0_3 a0_4 a0_5 a0_6 a0_7 a0_8 a0_9 1048576).bind fun t393 => (if t393 < 0 then (some true) else ((laws_szStringS.f k l1 t393).bind fun t394 => (if t394 < 0 then (some true) else ((laws_toState.f k a0_0 a0_1 l0_2 l0_3 a0_4 a0_5 a0_6 a0_7 a0_8 a0_9).bind fun bt395 => ((laws_toStringS.f k l1).bind fun t409 => ((spec_OrphansOf.f k bt395.1 bt395.2.1 bt395.2.2.1 bt395.2.2.2.1 bt395.2.2.2.2.1 bt395.2.2.2.2.2.1 bt395.2.2.2.2.2.2.1 bt395.2.2.2.2.2.2.2.1 bt395.2.2.2.2.2.2.2.2.1 bt395.2.2.2.2.2.2.2.2.2 t409).bind fun bt412 => ((laws_toState.f k a0_0 a0_1 l0_2 l0_3 a0_4 a0_5 a0_6 a0_7 a0_8 a0_9).bind fun bt416 => ((laws_toStringS.f k l1).bind fun t431 => ((impl_OrphansOf.f k bt416.1 bt416.2.1 bt416.2.2.1 bt416.2.2.2.1 bt416.2.2.2.2.1 bt416.2.2.2.2.2.1 bt416.2.2.2.2.2.2.1 bt416.2.2.2.2.2.2.2.1 bt416.2.2.2.2.2.2.2.2.1 bt416.2.2.2.2.2.2.2.2.2 t431).bind fun bt434 => ((laws_eqStringS.f k bt434.1 bt412.1).bind fun t438 => (if t438 = true then (laws_FnExactOrphansOf.j0 k l1 bt412.1 bt412.2 t431 bt434.1 bt434.2 (bt434.2 != bt412.2) a0_0 a0_1 l0_2 l0_3 a0_4 a0_5 a0_6 a0_7 a0_8 a0_9 bt416.1 bt416.2.1 bt416.2.2.1 bt416.2.2.2.1 bt416.2.2.2.2.1 bt416.2.2.2.2.2.1 bt416.2.2.2.2.2.2.1 bt416.2.2.2.2.2.2.2.1 bt416.2.2.2.2.2.2.2.2.1 bt416.2.2.2.2.2.2.2.2.2) else (laws_FnExactOrphansOf.j0 k l1 bt412.1 bt412.2 t431 bt434.1 bt434.2 true a0_0 a0_1 l0_2 l0_3 a0_4 a0_5 a0_6 a0_7 a0_8 a0_9 bt416.1 bt416.2.1 bt416.2.2.1 bt416.2.2.2.1 bt416.2.2.2.2.1 bt416.2.2.2.2.2.1 bt416.2.2.2.2.2.2.1 bt416.2.2.2.2.2.2.2.1 bt416.2.2.2.2.2.2.2.2.1 bt416.2.2.2.2.2.2.2.2.2))))))))))))
theorem laws_FnExactOrphansOf.mono_l : ∀ k,(∀ y0 y1 y2 y3 y4 y5 y6 y7 y8 y9 y10 y11 y12 y13 y14 y15 y16 y17 y18 y19 y20 y21 y22 y23 y24 y25 y26,LeO (laws_FnExactOrphansOf.j0 k y0 y1 y2 y3 y4 y5 y6 y7 y8 y9 y10 y11 y12 y13 y14 y15 y16 y17 y18 y19 y20 y21 y22 y23 y24 y25 y26) (laws_FnExactOrphansOf.j0 (k + 1) y0 y1 y2 y3 y4 y5 y6 y7 y8 y9 y10 y11 y12 y13 y14 y15 y16 y17 y18 y19 y20 y21 y22 y23 y24 y25 y26)) ∧ (∀ y0 y1 y2 y3 y4 y5 y6 y7 y8 y9 y10 y11 y12 y13 y14,LeO (laws_FnExactOrphansOf.j1 k y0 y1 y2 y3 y4 y5 y6 y7 y8 y9 y10 y11 y12 y13 y14) (laws_FnExactOrphansOf.j1 (k + 1) y0 y1 y2 y3 y4 y5 y6 y7 y8 y9 y10 y11 y12 y13 y14)) ∧ (∀ y0 y1 y2,LeO (laws_FnExactOrphansOf.j2 k y0 y1 y2) (laws_FnExactOrphansOf.j2 (k + 1) y0 y1 y2))
 | 0 => ⟨fun _ _ _ _ _ _ _ _ _ _ _ _ _ _ _ _ _ _ _ _ _ _ _ _ _ _ _ r h => by simp [laws_FnExactOrphansOf.j0] at h,fun _ _ _ _ _ _ _ _ _ _ _ _ _ _ _ r h => by simp [laws_FnExactOrphansOf.j1] at h,fun _ _ _ r h => by simp [laws_FnExactOrphansOf.j2] at h⟩
 | k + 1 => by
  obtain ⟨ih0,ih1,ih2⟩ := laws_FnExactOrphansOf.mono_l k
  refine ⟨?_,?_,?_⟩
  all_goals
   intros
   first | unfold laws_FnExactOrphansOf.j0 | unfold laws_FnExactOrphansOf.j1 | unfold laws_FnExactOrphansOf.j2
   repeat' first
   | (with_reducible first | exact ih0 .. | exact ih1 .. | exact ih2 .. | exact impl_OrphansOf.mono .. | exact laws_eqState.mono .. | exact laws_eqStringS.mono .. | exact laws_heldStringS.mono .. | exact laws_markState.mono .. | exact laws_markStringS.mono .. | exact laws_szState.mono .. | exact laws_szStringS.mono .. | exact laws_toState.mono .. | exact laws_toStringS.mono .. | exact spec_OrphansOf.mono .. | exact LeO.refl _ | exact LeO.none _ | refine LeO.ite ?_ ?_ | refine LeO.bind ?_ (fun _ => ?_))
   | exact LeO.none _ | refine LeO.ite ?_ ?_ | refine LeO.bind ?_ (fun _ => ?_)
theorem laws_FnExactOrphansOf.mono : ∀ a0 a1 a2 a3 a4 a5 a6 a7 a8 a9 a10 k,LeO (laws_FnExactOrphansOf.f k a0 a1 a2 a3 a4 a5 a6 a7 a8 a9 a10) (laws_FnExactOrphansOf.f (k + 1) a0 a1 a2 a3 a4 a5 a6 a7 a8 a9 a10) := by
 intro a0 a1 a2 a3 a4 a5 a6 a7 a8 a9 a10 k
 obtain ⟨ih0,ih1,ih2⟩ := laws_FnExactOrphansOf.mono_l k
 unfold laws_FnExactOrphansOf.f
 repeat' first
 | (with_reducible first | exact ih0 .. | exact ih1 .. | exact ih2 .. | exact impl_OrphansOf.mono .. | exact laws_eqState.mono .. | exact laws_eqStringS.mono .. | exact laws_heldStringS.mono .. | exact laws_markState.mono .. | exact laws_markStringS.mono .. | exact laws_szState.mono .. | exact laws_szStringS.mono .. | exact laws_toState.mono .. | exact laws_toStringS.mono .. | exact spec_OrphansOf.mono .. | exact LeO.refl _ | exact LeO.none _ | refine LeO.ite ?_ ?_ | refine LeO.bind ?_ (fun _ => ?_))
 | exact LeO.none _ | refine LeO.ite ?_ ?_ | refine LeO.bind ?_ (fun _ => ?_)
set_option maxHeartbeats 8000000 in
set_option maxRecDepth 100000 in
theorem laws_FnExactOrphansOf.calls (k : Nat) (a0_0 : Int) (a0_1 : Int) (A0_2 : Option Addr) (c0_2 : Nat) (l0_2 : List (S59)) (A0_3 : Option Addr) (c0_3 : Nat) (l0_3 : List (S62)) (a0_4 : Int) (a0_5 : Int) (a0_6 : Int) (a0_7 : Int) (a0_8 : Int) (a0_9 : Int) (A1 : Option Addr) (c1 : Nat) (l1 : List ByteArray) (r : Bool) (w : World) (hV : Vars w) (hr0_2 : Kd.C k59 w A0_2 l0_2.length l0_2) (hc0_2 : l0_2.length ≤ c0_2) (hr0_3 : Kd.C k62 w A0_3 l0_3.length l0_3) (hc0_3 : l0_3.length ≤ c0_3) (hr1 : Kd.C Kd.string w A1 l1.length l1) (hc1 : l1.length ≤ c1) (h : laws_FnExactOrphansOf.f k a0_0 a0_1 l0_2 l0_3 a0_4 a0_5 a0_6 a0_7 a0_8 a0_9 l1 = some r) :
  Calls Tryz.prog 3 #[.agg #[.int .i64 a0_0,.int .i64 a0_1,.slice A0_2 l0_2.length c0_2,.slice A0_3 l0_3.length c0_3,.int .i64 a0_4,.int .i64 a0_5,.int .i64 a0_6,.int .i64 a0_7,.int .i64 a0_8,.int .i64 a0_9],.slice A1 l1.length c1] w fun e w' => e = .returned (.bool r) ∧ Below w.heap.size w w' := by
 have hu26 := Tryz.underlying26
 have hu35 := Tryz.underlying35
 have HR0_2 := Aside0.mk hr0_2
 have HC0_2 := Aside0.mk hc0_2
 clear hr0_2 hc0_2
 have HR0_3 := Aside0.mk hr0_3
 have HC0_3 := Aside0.mk hc0_3
 clear hr0_3 hc0_3
 have HR1 := Aside0.mk hr1
 have HC1 := Aside0.mk hc1
 clear hr1 hc1
 have HV := Aside0.mk hV
 clear hV
 have HB := Aside0.mk (Below.refl w.heap.size w)
 have H : ((laws_szState.f k a0_0 a0_1 l0_2 l0_3 a0_4 a0_5 a0_6 a0_7 a0_8 a0_9 1048576).bind fun t393 => (if t393 < 0 then (some true) else ((laws_szStringS.f k l1 t393).bind fun t394 => (if t394 < 0 then (some true) else ((laws_toState.f k a0_0 a0_1 l0_2 l0_3 a0_4 a0_5 a0_6 a0_7 a0_8 a0_9).bind fun bt395 => ((laws_toStringS.f k l1).bind fun t409 => ((spec_OrphansOf.f k bt395.1 bt395.2.1 bt395.2.2.1 bt395.2.2.2.1 bt395.2.2.2.2.1 bt395.2.2.2.2.2.1 bt395.2.2.2.2.2.2.1 bt395.2.2.2.2.2.2.2.1 bt395.2.2.2.2.2.2.2.2.1 bt395.2.2.2.2.2.2.2.2.2 t409).bind fun bt412 => ((laws_toState.f k a0_0 a0_1 l0_2 l0_3 a0_4 a0_5 a0_6 a0_7 a0_8 a0_9).bind fun bt416 => ((laws_toStringS.f k l1).bind fun t431 => ((impl_OrphansOf.f k bt416.1 bt416.2.1 bt416.2.2.1 bt416.2.2.2.1 bt416.2.2.2.2.1 bt416.2.2.2.2.2.1 bt416.2.2.2.2.2.2.1 bt416.2.2.2.2.2.2.2.1 bt416.2.2.2.2.2.2.2.2.1 bt416.2.2.2.2.2.2.2.2.2 t431).bind fun bt434 => ((laws_eqStringS.f k bt434.1 bt412.1).bind fun t438 => (if t438 = true then (laws_FnExactOrphansOf.j0 k l1 bt412.1 bt412.2 t431 bt434.1 bt434.2 (bt434.2 != bt412.2) a0_0 a0_1 l0_2 l0_3 a0_4 a0_5 a0_6 a0_7 a0_8 a0_9 bt416.1 bt416.2.1 bt416.2.2.1 bt416.2.2.2.1 bt416.2.2.2.2.1 bt416.2.2.2.2.2.1 bt416.2.2.2.2.2.2.1 bt416.2.2.2.2.2.2.2.1 bt416.2.2.2.2.2.2.2.2.1 bt416.2.2.2.2.2.2.2.2.2) else (laws_FnExactOrphansOf.j0 k l1 bt412.1 bt412.2 t431 bt434.1 bt434.2 true a0_0 a0_1 l0_2 l0_3 a0_4 a0_5 a0_6 a0_7 a0_8 a0_9 bt416.1 bt416.2.1 bt416.2.2.1 bt416.2.2.2.1 bt416.2.2.2.2.1 bt416.2.2.2.2.2.1 bt416.2.2.2.2.2.2.1 bt416.2.2.2.2.2.2.2.1 bt416.2.2.2.2.2.2.2.2.1 bt416.2.2.2.2.2.2.2.2.2))))))))))))) = some r := h
 clear h
 replace H := Option.bind_eq_some_iff.mp H
 obtain ⟨t393,A30,H⟩ := H
 try dsimp only at H
 have A3 := Aside0.mk A30
 clear A30
 by_cases c4 : t393 < 0
 ·rw [if_pos c4] at H
  have c4b0 : decide (t393 < 0) = true := decide_eq_true c4
  clear c4
  obtain rfl := Option.some.inj H
  go_enter Tryz.func3,Tryz.ntmps3
  go_wp2_with (first | ((with_reducible refine gate_dst (N:=2) rfl ?_); refine box_event ?hg (N:=2) ?hd (cs := #[.int .i64 a0_0,.int .i64 a0_1,.slice A0_2 l0_2.length c0_2,.slice A0_3 l0_3.length c0_3,.int .i64 a0_4,.int .i64 a0_5,.int .i64 a0_6,.int .i64 a0_7,.int .i64 a0_8,.int .i64 a0_9]) (t:=26) ?hr ?_; (case hd => rfl); (case hg => rfl); (case hr => first | (go_simp; done) | (go_simp; rfl)); intro gb392 hg w5 hbox hb; have n0_ := Aside0.mk (below_step bA hb); have n1_ := Aside0.mk (hbox); have n2_ := Aside0.mk ((gw hg : w.heap.size ≤ gb392)); have n3_ := Aside0.mk ((gw hg : w.heap.size ≤ gb392)); clear HB; have HB := n0_; have BK392 := n1_; have GW392 := n2_; have GE392 := n3_; clear n0_ n1_ n2_ n3_; clear hb hbox hg; obtain ⟨hcz6_0,hcz6_1,hcz6_2,hcz6_3,hcz6_4,hcz6_5,hcz6_6,hcz6_7,hcz6_8,hcz6_9⟩ := cl10 BK392.out; obtain ⟨hfz6_0,hfz6_1,hfz6_2,hfz6_3,hfz6_4,hfz6_5,hfz6_6,hfz6_7,hfz6_8,hfz6_9⟩ := fz10 BK392.out) | ((with_reducible refine gate_callee (f:=4) rfl ?_); refine goesL_ (some 19) rfl rfl Tryz.func4 (by kernel_rfl) rfl #[.agg #[.int .i64 a0_0,.int .i64 a0_1,.slice A0_2 l0_2.length c0_2,.slice A0_3 l0_3.length c0_3,.int .i64 a0_4,.int .i64 a0_5,.int .i64 a0_6,.int .i64 a0_7,.int .i64 a0_8,.int .i64 a0_9],.int .i64 1048576] rfl mA ?_; (with_reducible refine (laws_szState.calls k a0_0 a0_1 _ _ l0_2 _ _ l0_3 a0_4 a0_5 a0_6 a0_7 a0_8 a0_9 1048576 t393 _ ?side1 ?side2 ?side3 ?side4 A3.out).mono ?_); (case side1 => exact sC HR0_2.out); (case side2 => exact HC0_2.out); (case side3 => exact sC HR0_3.out); (case side4 => exact HC0_3.out); rintro e w7 ⟨rfl,hb⟩; refine ⟨_,rfl,?_⟩; have n0_ := Aside0.mk (bb BK392.out hb); have n1_ := Aside0.mk (below_step bA hb); clear BK392 HB; have BK392 := n0_; have HB := n1_; clear n0_ n1_; (try clear hb); (try clear hb2); (try clear hk); (try clear hi)))
  go_ret
  exact ⟨by first | rfl | (simp [errW_none,errW_some] <;> rfl) | (simp [*,errW_none,errW_some] <;> rfl),bA⟩
 ·rw [if_neg c4] at H
  have c4b0 : decide (t393 < 0) = false := decide_eq_false c4
  clear c4
  replace H := Option.bind_eq_some_iff.mp H
  obtain ⟨t394,A80,H⟩ := H
  try dsimp only at H
  have A8 := Aside0.mk A80
  clear A80
  by_cases c9 : t394 < 0
  ·rw [if_pos c9] at H
   have c9b0 : decide (t394 < 0) = true := decide_eq_true c9
   clear c9
   obtain rfl := Option.some.inj H
   go_enter Tryz.func3,Tryz.ntmps3
   go_wp2_with (first | ((with_reducible refine gate_dst (N:=2) rfl ?_); refine box_event ?hg (N:=2) ?hd (cs := #[.int .i64 a0_0,.int .i64 a0_1,.slice A0_2 l0_2.length c0_2,.slice A0_3 l0_3.length c0_3,.int .i64 a0_4,.int .i64 a0_5,.int .i64 a0_6,.int .i64 a0_7,.int .i64 a0_8,.int .i64 a0_9]) (t:=26) ?hr ?_; (case hd => rfl); (case hg => rfl); (case hr => first | (go_simp; done) | (go_simp; rfl)); intro gb392 hg w10 hbox hb; have n0_ := Aside0.mk (below_step bA hb); have n1_ := Aside0.mk (hbox); have n2_ := Aside0.mk ((gw hg : w.heap.size ≤ gb392)); have n3_ := Aside0.mk ((gw hg : w.heap.size ≤ gb392)); clear HB; have HB := n0_; have BK392 := n1_; have GW392 := n2_; have GE392 := n3_; clear n0_ n1_ n2_ n3_; clear hb hbox hg; obtain ⟨hcz11_0,hcz11_1,hcz11_2,hcz11_3,hcz11_4,hcz11_5,hcz11_6,hcz11_7,hcz11_8,hcz11_9⟩ := cl10 BK392.out; obtain ⟨hfz11_0,hfz11_1,hfz11_2,hfz11_3,hfz11_4,hfz11_5,hfz11_6,hfz11_7,hfz11_8,hfz11_9⟩ := fz10 BK392.out) | ((with_reducible refine gate_callee (f:=4) rfl ?_); refine goesL_ (some 19) rfl rfl Tryz.func4 (by kernel_rfl) rfl #[.agg #[.int .i64 a0_0,.int .i64 a0_1,.slice A0_2 l0_2.length c0_2,.slice A0_3 l0_3.length c0_3,.int .i64 a0_4,.int .i64 a0_5,.int .i64 a0_6,.int .i64 a0_7,.int .i64 a0_8,.int .i64 a0_9],.int .i64 1048576] rfl mA ?_; (with_reducible refine (laws_szState.calls k a0_0 a0_1 _ _ l0_2 _ _ l0_3 a0_4 a0_5 a0_6 a0_7 a0_8 a0_9 1048576 t393 _ ?side1 ?side2 ?side3 ?side4 A3.out).mono ?_); (case side1 => exact sC HR0_2.out); (case side2 => exact HC0_2.out); (case side3 => exact sC HR0_3.out); (case side4 => exact HC0_3.out); rintro e w12 ⟨rfl,hb⟩; refine ⟨_,rfl,?_⟩; have n0_ := Aside0.mk (bb BK392.out hb); have n1_ := Aside0.mk (below_step bA hb); clear BK392 HB; have BK392 := n0_; have HB := n1_; clear n0_ n1_; (try clear hb); (try clear hb2); (try clear hk); (try clear hi)) | ((with_reducible refine gate_callee (f:=5) rfl ?_); refine goesL_ (some 24) rfl rfl Tryz.func5 (by kernel_rfl) rfl #[.slice A1 l1.length c1,.int .i64 t393] rfl mA ?_; (with_reducible refine (laws_szStringS.calls k _ _ l1 t393 t394 _ ?side1 ?side2 A8.out).mono ?_); (case side1 => exact sC HR1.out); (case side2 => exact HC1.out); rintro e w' ⟨rfl,⟨nd,rfl⟩⟩; refine ⟨_,rfl,?_⟩))
   go_ret
   exact ⟨by first | rfl | (simp [errW_none,errW_some] <;> rfl) | (simp [*,errW_none,errW_some] <;> rfl),bA⟩
  ·rw [if_neg c9] at H
   have c9b0 : decide (t394 < 0) = false := decide_eq_false c9
   clear c9
   replace H := Option.bind_eq_some_iff.mp H
   obtain ⟨⟨t395,t396,t397,t400,t403,t404,t405,t406,t407,t408⟩,A130,H⟩ := H
   try dsimp only at H
   have A13 := Aside0.mk A130
   clear A130
   replace H := Option.bind_eq_some_iff.mp H
   obtain ⟨t409,A140,H⟩ := H
   try dsimp only at H
   have A14 := Aside0.mk A140
   clear A140
   replace H := Option.bind_eq_some_iff.mp H
   obtain ⟨⟨t412,t415⟩,A150,H⟩ := H
   try dsimp only at H
   have A15 := Aside0.mk A150
   clear A150
   replace H := Option.bind_eq_some_iff.mp H
   obtain ⟨⟨t416,t417,t418,t421,t424,t425,t426,t427,t428,t429⟩,A160,H⟩ := H
   try dsimp only at H
   have A16 := Aside0.mk A160
   clear A160
   replace H := Option.bind_eq_some_iff.mp H
   obtain ⟨t431,A170,H⟩ := H
   try dsimp only at H
   have A17 := Aside0.mk A170
   clear A170
   replace H := Option.bind_eq_some_iff.mp H
   obtain ⟨⟨t434,t437⟩,A180,H⟩ := H
   try dsimp only at H
   have A18 := Aside0.mk A180
   clear A180
   have HC19 := Aside0.mk H
   clear H
   go_enter Tryz.func3,Tryz.ntmps3
   go_upto_region 12 with (first | ((with_reducible refine gate_dst (N:=2) rfl ?_); refine box_event ?hg (N:=2) ?hd (cs := #[.int .i64 a0_0,.int .i64 a0_1,.slice A0_2 l0_2.length c0_2,.slice A0_3 l0_3.length c0_3,.int .i64 a0_4,.int .i64 a0_5,.int .i64 a0_6,.int .i64 a0_7,.int .i64 a0_8,.int .i64 a0_9]) (t:=26) ?hr ?_; (case hd => rfl); (case hg => rfl); (case hr => first | (go_simp; done) | (go_simp; rfl)); intro gb392 hg w20 hbox hb; have n0_ := Aside0.mk (below_step bA hb); have n1_ := Aside0.mk (hbox); have n2_ := Aside0.mk ((gw hg : w.heap.size ≤ gb392)); have n3_ := Aside0.mk ((gw hg : w.heap.size ≤ gb392)); clear HB; have HB := n0_; have BK392 := n1_; have GW392 := n2_; have GE392 := n3_; clear n0_ n1_ n2_ n3_; clear hb hbox hg; obtain ⟨hcz21_0,hcz21_1,hcz21_2,hcz21_3,hcz21_4,hcz21_5,hcz21_6,hcz21_7,hcz21_8,hcz21_9⟩ := cl10 BK392.out; obtain ⟨hfz21_0,hfz21_1,hfz21_2,hfz21_3,hfz21_4,hfz21_5,hfz21_6,hfz21_7,hfz21_8,hfz21_9⟩ := fz10 BK392.out) | ((with_reducible refine gate_callee (f:=4) rfl ?_); refine goesL_ (some 19) rfl rfl Tryz.func4 (by kernel_rfl) rfl #[.agg #[.int .i64 a0_0,.int .i64 a0_1,.slice A0_2 l0_2.length c0_2,.slice A0_3 l0_3.length c0_3,.int .i64 a0_4,.int .i64 a0_5,.int .i64 a0_6,.int .i64 a0_7,.int .i64 a0_8,.int .i64 a0_9],.int .i64 1048576] rfl mA ?_; (with_reducible refine (laws_szState.calls k a0_0 a0_1 _ _ l0_2 _ _ l0_3 a0_4 a0_5 a0_6 a0_7 a0_8 a0_9 1048576 t393 _ ?side1 ?side2 ?side3 ?side4 A3.out).mono ?_); (case side1 => exact sC HR0_2.out); (case side2 => exact HC0_2.out); (case side3 => exact sC HR0_3.out); (case side4 => exact HC0_3.out); rintro e w22 ⟨rfl,hb⟩; refine ⟨_,rfl,?_⟩; have n0_ := Aside0.mk (bb BK392.out hb); have n1_ := Aside0.mk (below_step bA hb); clear BK392 HB; have BK392 := n0_; have HB := n1_; clear n0_ n1_; (try clear hb); (try clear hb2); (try clear hk); (try clear hi)) | ((with_reducible refine gate_callee (f:=5) rfl ?_); refine goesL_ (some 24) rfl rfl Tryz.func5 (by kernel_rfl) rfl #[.slice A1 l1.length c1,.int .i64 t393] rfl mA ?_; (with_reducible refine (laws_szStringS.calls k _ _ l1 t393 t394 _ ?side1 ?side2 A8.out).mono ?_); (case side1 => exact sC HR1.out); (case side2 => exact HC1.out); rintro e w' ⟨rfl,⟨nd,rfl⟩⟩; refine ⟨_,rfl,?_⟩; (try (rw [drewN_self w22]; generalize hq_ : World.drewN w22 _ = w22; have n0_ : Aside0 (w22.heap[gb392]? = some (.cells #[.int .i64 a0_0,.int .i64 a0_1,.slice A0_2 l0_2.length c0_2,.slice A0_3 l0_3.length c0_3,.int .i64 a0_4,.int .i64 a0_5,.int .i64 a0_6,.int .i64 a0_7,.int .i64 a0_8,.int .i64 a0_9] 26 (0,0))) := ⟨by rw [← hq_]; exact (kA BK392.out)⟩; have n1_ : Aside0 (Below w.heap.size w w22) := ⟨by rw [← hq_]; exact bA⟩; clear BK392 HB hq_; have BK392 := n0_; have HB := n1_; clear n0_ n1_)); obtain ⟨hcz23_0,hcz23_1,hcz23_2,hcz23_3,hcz23_4,hcz23_5,hcz23_6,hcz23_7,hcz23_8,hcz23_9⟩ := cl10 BK392.out; obtain ⟨hfz23_0,hfz23_1,hfz23_2,hfz23_3,hfz23_4,hfz23_5,hfz23_6,hfz23_7,hfz23_8,hfz23_9⟩ := fz10 BK392.out) | ((with_reducible refine gate_callee (f:=7) rfl ?_); refine goesL_ (some 29) rfl rfl Tryz.func7 (by kernel_rfl) rfl #[.agg #[.int .i64 a0_0,.int .i64 a0_1,.slice A0_2 l0_2.length c0_2,.slice A0_3 l0_3.length c0_3,.int .i64 a0_4,.int .i64 a0_5,.int .i64 a0_6,.int .i64 a0_7,.int .i64 a0_8,.int .i64 a0_9]] rfl mA ?_; (with_reducible refine (laws_toState.calls k a0_0 a0_1 _ _ l0_2 _ _ l0_3 a0_4 a0_5 a0_6 a0_7 a0_8 a0_9 t395 t396 t397 t400 t403 t404 t405 t406 t407 t408 _ ?side1 ?side2 ?side3 ?side4 A13.out).mono ?_); (case side1 => exact sC HR0_2.out); (case side2 => exact HC0_2.out); (case side3 => exact sC HR0_3.out); (case side4 => exact HC0_3.out); rintro e w24 ⟨v398,v401,rfl,ho0,ho1,hb⟩; refine ⟨_,rfl,?_⟩; have n0_ := Aside0.mk (Kd.R_lower ho0 (below_size bA)); have n1_ := Aside0.mk (Kd.R_lower ho1 (below_size bA)); have n2_ := Aside0.mk (bb BK392.out hb); have n3_ := Aside0.mk (below_step bA hb); clear BK392 HB; have HO399 := n0_; have HO402 := n1_; have BK392 := n2_; have HB := n3_; clear n0_ n1_ n2_ n3_; (try clear hb); (try clear hb2); (try clear hk); (try clear hi); (try clear ho0); (try clear ho1)) | ((with_reducible refine gate_callee (f:=8) rfl ?_); refine goesL_ (some 31) rfl rfl Tryz.func8 (by kernel_rfl) rfl #[.slice A1 l1.length c1] rfl mA ?_; (with_reducible refine (laws_toStringS.calls k _ _ l1 t409 _ ?side1 ?side2 A14.out).mono ?_); (case side1 => exact sC HR1.out); (case side2 => exact HC1.out); rintro e w25 ⟨v410,rfl,ho0,hb⟩; refine ⟨_,rfl,?_⟩; have n0_ := Aside0.mk (Kd.R_below (rA HO399.out) hb); have n1_ := Aside0.mk (Kd.R_below (rA HO402.out) hb); have n2_ := Aside0.mk (Kd.R_lower ho0 (below_size bA)); have n3_ := Aside0.mk (bb BK392.out hb); have n4_ := Aside0.mk (below_step bA hb); clear HO399 HO402 BK392 HB; have HO399 := n0_; have HO402 := n1_; have HO411 := n2_; have BK392 := n3_; have HB := n4_; clear n0_ n1_ n2_ n3_ n4_; (try clear hb); (try clear hb2); (try clear hk); (try clear hi); (try clear ho0); obtain ⟨Ao26,co26,eo26⟩ := Kd.R_slice HO399.out; subst eo26; obtain ⟨Ao27,co27,eo27⟩ := Kd.R_slice HO402.out; subst eo27; obtain ⟨Ao28,co28,eo28⟩ := Kd.R_slice HO411.out; subst eo28) | ((with_reducible refine gate_callee (f:=6) rfl ?_); refine goesL_ (some 32) rfl rfl Tryz.func6 (by kernel_rfl) rfl #[.agg #[.int .i64 t395,.int .i64 t396,.slice Ao26 t397.length co26,.slice Ao27 t400.length co27,.int .i64 t403,.int .i64 t404,.int .i64 t405,.int .i64 t406,.int .i64 t407,.int .i64 t408],.slice Ao28 t409.length co28] rfl mA ?_; (with_reducible refine (spec_OrphansOf.calls k t395 t396 _ _ t397 _ _ t400 t403 t404 t405 t406 t407 t408 _ _ t409 t412 t415 _ ?side1 ?side2 ?side3 ?side4 ?side5 ?side6 A15.out).mono ?_); (case side1 => repeat (first | exact (Kd.R_reads' HO399.out).2.2 | (with_reducible refine Kd.C_alloc ?_ _) | (with_reducible refine Kd.C_drewN ?_ _) | (with_reducible refine Kd.C_drew ?_))); (case side2 => exact (Kd.R_reads' HO399.out).2.1); (case side3 => repeat (first | exact (Kd.R_reads' HO402.out).2.2 | (with_reducible refine Kd.C_alloc ?_ _) | (with_reducible refine Kd.C_drewN ?_ _) | (with_reducible refine Kd.C_drew ?_))); (case side4 => exact (Kd.R_reads' HO402.out).2.1); (case side5 => repeat (first | exact (Kd.R_reads' HO411.out).2.2 | (with_reducible refine Kd.C_alloc ?_ _) | (with_reducible refine Kd.C_drewN ?_ _) | (with_reducible refine Kd.C_drew ?_))); (case side6 => exact (Kd.R_reads' HO411.out).2.1); rintro e w29 ⟨v413,rfl,ho0,hb⟩; refine ⟨_,rfl,?_⟩; have n0_ := Aside0.mk (Kd.R_below (rA HO399.out) hb); have n1_ := Aside0.mk (Kd.R_below (rA HO402.out) hb); have n2_ := Aside0.mk (Kd.R_elder' (rA HO411.out) (Kd.R_base ho0) hb); have n3_ := Aside0.mk (Kd.R_lower (Kd.R_new' ho0 (Kd.R_lt (rA HO411.out))) (below_size bA)); have n4_ := Aside0.mk (bb BK392.out hb); have n5_ := Aside0.mk (below_step bA hb); clear HO399 HO402 HO411 BK392 HB; have HO399 := n0_; have HO402 := n1_; have HO411 := n2_; have HO414 := n3_; have BK392 := n4_; have HB := n5_; clear n0_ n1_ n2_ n3_ n4_ n5_; (try clear hb); (try clear hb2); (try clear hk); (try clear hi); (try clear ho0); obtain ⟨hcz30_0,hcz30_1,hcz30_2,hcz30_3,hcz30_4,hcz30_5,hcz30_6,hcz30_7,hcz30_8,hcz30_9⟩ := cl10 BK392.out; obtain ⟨hfz30_0,hfz30_1,hfz30_2,hfz30_3,hfz30_4,hfz30_5,hfz30_6,hfz30_7,hfz30_8,hfz30_9⟩ := fz10 BK392.out) | ((with_reducible refine gate_callee (f:=7) rfl ?_); refine goesL_ (some 36) rfl rfl Tryz.func7 (by kernel_rfl) rfl #[.agg #[.int .i64 a0_0,.int .i64 a0_1,.slice A0_2 l0_2.length c0_2,.slice A0_3 l0_3.length c0_3,.int .i64 a0_4,.int .i64 a0_5,.int .i64 a0_6,.int .i64 a0_7,.int .i64 a0_8,.int .i64 a0_9]] rfl mA ?_; (with_reducible refine (laws_toState.calls k a0_0 a0_1 _ _ l0_2 _ _ l0_3 a0_4 a0_5 a0_6 a0_7 a0_8 a0_9 t416 t417 t418 t421 t424 t425 t426 t427 t428 t429 _ ?side1 ?side2 ?side3 ?side4 A16.out).mono ?_); (case side1 => exact sC HR0_2.out); (case side2 => exact HC0_2.out); (case side3 => exact sC HR0_3.out); (case side4 => exact HC0_3.out); rintro e w31 ⟨v419,v422,rfl,ho0,ho1,hb⟩; refine ⟨_,rfl,?_⟩; have n0_ := Aside0.mk (Kd.R_elder' (rA HO399.out) (Kd.R_base ho0) hb); have n1_ := Aside0.mk (Kd.R_elder' (rA HO402.out) (Kd.R_base ho1) hb); have n2_ := Aside0.mk (Kd.R_below (rA HO411.out) hb); have n3_ := Aside0.mk (Kd.R_below (rA HO414.out) hb); have n4_ := Aside0.mk (Kd.R_lower (Kd.R_new' ho0 (Kd.R_lt (rA HO399.out))) (below_size bA)); have n5_ := Aside0.mk (Kd.R_lower (Kd.R_new' ho1 (Kd.R_lt (rA HO402.out))) (below_size bA)); have n6_ := Aside0.mk (bb BK392.out hb); have n7_ := Aside0.mk (below_step bA hb); clear HO399 HO402 HO411 HO414 BK392 HB; have HO399 := n0_; have HO402 := n1_; have HO411 := n2_; have HO414 := n3_; have HO420 := n4_; have HO423 := n5_; have BK392 := n6_; have HB := n7_; clear n0_ n1_ n2_ n3_ n4_ n5_ n6_ n7_; (try clear hb); (try clear hb2); (try clear hk); (try clear hi); (try clear ho0); (try clear ho1)) | ((with_reducible refine gate_dst (N:=8) rfl ?_); refine box_event ?hg (N:=8) ?hd (cs := #[.int .i64 0,.int .i64 0,.slice none 0 0,.slice none 0 0,.int .i64 0,.int .i64 0,.int .i64 0,.int .i64 0,.int .i64 0,.int .i64 0]) (t:=35) ?hr ?_; (case hd => rfl); (case hg => rfl); (case hr => first | (go_simp; done) | (go_simp; rfl)); intro gb430 hg w32 hbox hb; have n0_ := Aside0.mk (Kd.R_below (rA HO399.out) hb); have n1_ := Aside0.mk (Kd.R_below (rA HO402.out) hb); have n2_ := Aside0.mk (Kd.R_below (rA HO411.out) hb); have n3_ := Aside0.mk (Kd.R_below (rA HO414.out) hb); have n4_ := Aside0.mk (Kd.R_below (rA HO420.out) hb); have n5_ := Aside0.mk (Kd.R_below (rA HO423.out) hb); have n6_ := Aside0.mk (bb BK392.out hb); have n7_ := Aside0.mk (below_step bA hb); have n8_ := Aside0.mk (hbox); have n9_ := Aside0.mk ((gw hg : w.heap.size ≤ gb430)); have n10_ := Aside0.mk ((gw hg : w.heap.size ≤ gb430)); have n11_ := Aside0.mk ((nl hg BK392.out)); have n12_ := Aside0.mk ((ng hg BK392.out)); clear HO399 HO402 HO411 HO414 HO420 HO423 BK392 HB; have HO399 := n0_; have HO402 := n1_; have HO411 := n2_; have HO414 := n3_; have HO420 := n4_; have HO423 := n5_; have BK392 := n6_; have HB := n7_; have BK430 := n8_; have GW430 := n9_; have GE430 := n10_; have NB392_430 := n11_; have NB430_392 := n12_; clear n0_ n1_ n2_ n3_ n4_ n5_ n6_ n7_ n8_ n9_ n10_ n11_ n12_; clear hb hbox hg; have hnb33 := NB430_392.out; have hnc33 := NB392_430.out; obtain ⟨hcz34_0,hcz34_1,hcz34_2,hcz34_3,hcz34_4,hcz34_5,hcz34_6,hcz34_7,hcz34_8,hcz34_9⟩ := cl10 BK430.out; obtain ⟨hfz34_0,hfz34_1,hfz34_2,hfz34_3,hfz34_4,hfz34_5,hfz34_6,hfz34_7,hfz34_8,hfz34_9⟩ := fz10 BK430.out; obtain ⟨Ao35,co35,eo35⟩ := Kd.R_slice HO420.out; subst eo35; obtain ⟨Ao36,co36,eo36⟩ := Kd.R_slice HO423.out; subst eo36) | ((with_reducible refine gate_callee (f:=8) rfl ?_); refine goesL_ (some 38) rfl rfl Tryz.func8 (by kernel_rfl) rfl #[.slice A1 l1.length c1] rfl mA ?_; (with_reducible refine (laws_toStringS.calls k _ _ l1 t431 _ ?side1 ?side2 A17.out).mono ?_); (case side1 => exact Kd.C_below HR1.out bA); (case side2 => exact HC1.out); rintro e w37 ⟨v432,rfl,ho0,hb⟩; refine ⟨_,rfl,?_⟩; have n0_ := Aside0.mk (Kd.R_below (by (with_reducible repeat (first | apply Kd.R_alloc | apply Kd.R_drewN | apply Kd.R_drew)); exact (Kd.R_mono (Kd.R_far (p:=⟨gb430,9,none⟩) (Kd.R_far (p:=⟨gb430,8,none⟩) (Kd.R_far (p:=⟨gb430,7,none⟩) (Kd.R_far (p:=⟨gb430,6,none⟩) (Kd.R_far (p:=⟨gb430,5,none⟩) (Kd.R_far (p:=⟨gb430,4,none⟩) (Kd.R_far (p:=⟨gb430,3,none⟩) (Kd.R_far (p:=⟨gb430,2,none⟩) (Kd.R_far (p:=⟨gb430,1,none⟩) (Kd.R_far (p:=⟨gb430,0,none⟩) (Kd.R_types HO399.out BK430.out (by decide)) (fun _ hk => hk.2) (.int .i64 t416)) (fun _ hk => hk.2) (.int .i64 t417)) (fun _ hk => hk.2) (.slice Ao35 t418.length co35)) (fun _ hk => hk.2) (.slice Ao36 t421.length co36)) (fun _ hk => hk.2) (.int .i64 t424)) (fun _ hk => hk.2) (.int .i64 t425)) (fun _ hk => hk.2) (.int .i64 t426)) (fun _ hk => hk.2) (.int .i64 t427)) (fun _ hk => hk.2) (.int .i64 t428)) (fun _ hk => hk.2) (.int .i64 t429)) (fun _ h_ => h_.1))) hb); have n1_ := Aside0.mk (Kd.R_below (by (with_reducible repeat (first | apply Kd.R_alloc | apply Kd.R_drewN | apply Kd.R_drew)); exact (Kd.R_mono (Kd.R_far (p:=⟨gb430,9,none⟩) (Kd.R_far (p:=⟨gb430,8,none⟩) (Kd.R_far (p:=⟨gb430,7,none⟩) (Kd.R_far (p:=⟨gb430,6,none⟩) (Kd.R_far (p:=⟨gb430,5,none⟩) (Kd.R_far (p:=⟨gb430,4,none⟩) (Kd.R_far (p:=⟨gb430,3,none⟩) (Kd.R_far (p:=⟨gb430,2,none⟩) (Kd.R_far (p:=⟨gb430,1,none⟩) (Kd.R_far (p:=⟨gb430,0,none⟩) (Kd.R_types HO402.out BK430.out (by decide)) (fun _ hk => hk.2) (.int .i64 t416)) (fun _ hk => hk.2) (.int .i64 t417)) (fun _ hk => hk.2) (.slice Ao35 t418.length co35)) (fun _ hk => hk.2) (.slice Ao36 t421.length co36)) (fun _ hk => hk.2) (.int .i64 t424)) (fun _ hk => hk.2) (.int .i64 t425)) (fun _ hk => hk.2) (.int .i64 t426)) (fun _ hk => hk.2) (.int .i64 t427)) (fun _ hk => hk.2) (.int .i64 t428)) (fun _ hk => hk.2) (.int .i64 t429)) (fun _ h_ => h_.1))) hb); have n2_ := Aside0.mk (Kd.R_elder' (by (with_reducible repeat (first | apply Kd.R_alloc | apply Kd.R_drewN | apply Kd.R_drew)); exact (Kd.R_mono (Kd.R_far (p:=⟨gb430,9,none⟩) (Kd.R_far (p:=⟨gb430,8,none⟩) (Kd.R_far (p:=⟨gb430,7,none⟩) (Kd.R_far (p:=⟨gb430,6,none⟩) (Kd.R_far (p:=⟨gb430,5,none⟩) (Kd.R_far (p:=⟨gb430,4,none⟩) (Kd.R_far (p:=⟨gb430,3,none⟩) (Kd.R_far (p:=⟨gb430,2,none⟩) (Kd.R_far (p:=⟨gb430,1,none⟩) (Kd.R_far (p:=⟨gb430,0,none⟩) (Kd.R_types HO411.out BK430.out (by decide)) (fun _ hk => hk.2) (.int .i64 t416)) (fun _ hk => hk.2) (.int .i64 t417)) (fun _ hk => hk.2) (.slice Ao35 t418.length co35)) (fun _ hk => hk.2) (.slice Ao36 t421.length co36)) (fun _ hk => hk.2) (.int .i64 t424)) (fun _ hk => hk.2) (.int .i64 t425)) (fun _ hk => hk.2) (.int .i64 t426)) (fun _ hk => hk.2) (.int .i64 t427)) (fun _ hk => hk.2) (.int .i64 t428)) (fun _ hk => hk.2) (.int .i64 t429)) (fun _ h_ => h_.1))) (Kd.R_base ho0) hb); have n3_ := Aside0.mk (Kd.R_elder' (by (with_reducible repeat (first | apply Kd.R_alloc | apply Kd.R_drewN | apply Kd.R_drew)); exact (Kd.R_mono (Kd.R_far (p:=⟨gb430,9,none⟩) (Kd.R_far (p:=⟨gb430,8,none⟩) (Kd.R_far (p:=⟨gb430,7,none⟩) (Kd.R_far (p:=⟨gb430,6,none⟩) (Kd.R_far (p:=⟨gb430,5,none⟩) (Kd.R_far (p:=⟨gb430,4,none⟩) (Kd.R_far (p:=⟨gb430,3,none⟩) (Kd.R_far (p:=⟨gb430,2,none⟩) (Kd.R_far (p:=⟨gb430,1,none⟩) (Kd.R_far (p:=⟨gb430,0,none⟩) (Kd.R_types HO414.out BK430.out (by decide)) (fun _ hk => hk.2) (.int .i64 t416)) (fun _ hk => hk.2) (.int .i64 t417)) (fun _ hk => hk.2) (.slice Ao35 t418.length co35)) (fun _ hk => hk.2) (.slice Ao36 t421.length co36)) (fun _ hk => hk.2) (.int .i64 t424)) (fun _ hk => hk.2) (.int .i64 t425)) (fun _ hk => hk.2) (.int .i64 t426)) (fun _ hk => hk.2) (.int .i64 t427)) (fun _ hk => hk.2) (.int .i64 t428)) (fun _ hk => hk.2) (.int .i64 t429)) (fun _ h_ => h_.1))) (Kd.R_base ho0) hb); have n4_ := Aside0.mk (Kd.R_below (by (with_reducible repeat (first | apply Kd.R_alloc | apply Kd.R_drewN | apply Kd.R_drew)); exact (Kd.R_mono (Kd.R_far (p:=⟨gb430,9,none⟩) (Kd.R_far (p:=⟨gb430,8,none⟩) (Kd.R_far (p:=⟨gb430,7,none⟩) (Kd.R_far (p:=⟨gb430,6,none⟩) (Kd.R_far (p:=⟨gb430,5,none⟩) (Kd.R_far (p:=⟨gb430,4,none⟩) (Kd.R_far (p:=⟨gb430,3,none⟩) (Kd.R_far (p:=⟨gb430,2,none⟩) (Kd.R_far (p:=⟨gb430,1,none⟩) (Kd.R_far (p:=⟨gb430,0,none⟩) (Kd.R_types HO420.out BK430.out (by decide)) (fun _ hk => hk.2) (.int .i64 t416)) (fun _ hk => hk.2) (.int .i64 t417)) (fun _ hk => hk.2) (.slice Ao35 t418.length co35)) (fun _ hk => hk.2) (.slice Ao36 t421.length co36)) (fun _ hk => hk.2) (.int .i64 t424)) (fun _ hk => hk.2) (.int .i64 t425)) (fun _ hk => hk.2) (.int .i64 t426)) (fun _ hk => hk.2) (.int .i64 t427)) (fun _ hk => hk.2) (.int .i64 t428)) (fun _ hk => hk.2) (.int .i64 t429)) (fun _ h_ => h_.1))) hb); have n5_ := Aside0.mk (Kd.R_below (by (with_reducible repeat (first | apply Kd.R_alloc | apply Kd.R_drewN | apply Kd.R_drew)); exact (Kd.R_mono (Kd.R_far (p:=⟨gb430,9,none⟩) (Kd.R_far (p:=⟨gb430,8,none⟩) (Kd.R_far (p:=⟨gb430,7,none⟩) (Kd.R_far (p:=⟨gb430,6,none⟩) (Kd.R_far (p:=⟨gb430,5,none⟩) (Kd.R_far (p:=⟨gb430,4,none⟩) (Kd.R_far (p:=⟨gb430,3,none⟩) (Kd.R_far (p:=⟨gb430,2,none⟩) (Kd.R_far (p:=⟨gb430,1,none⟩) (Kd.R_far (p:=⟨gb430,0,none⟩) (Kd.R_types HO423.out BK430.out (by decide)) (fun _ hk => hk.2) (.int .i64 t416)) (fun _ hk => hk.2) (.int .i64 t417)) (fun _ hk => hk.2) (.slice Ao35 t418.length co35)) (fun _ hk => hk.2) (.slice Ao36 t421.length co36)) (fun _ hk => hk.2) (.int .i64 t424)) (fun _ hk => hk.2) (.int .i64 t425)) (fun _ hk => hk.2) (.int .i64 t426)) (fun _ hk => hk.2) (.int .i64 t427)) (fun _ hk => hk.2) (.int .i64 t428)) (fun _ hk => hk.2) (.int .i64 t429)) (fun _ h_ => h_.1))) hb); have n6_ := Aside0.mk (Kd.R_lower (Kd.R_new' (Kd.R_new' ho0 (Kd.R_lt (by (with_reducible repeat (first | apply Kd.R_alloc | apply Kd.R_drewN | apply Kd.R_drew)); exact (Kd.R_mono (Kd.R_far (p:=⟨gb430,9,none⟩) (Kd.R_far (p:=⟨gb430,8,none⟩) (Kd.R_far (p:=⟨gb430,7,none⟩) (Kd.R_far (p:=⟨gb430,6,none⟩) (Kd.R_far (p:=⟨gb430,5,none⟩) (Kd.R_far (p:=⟨gb430,4,none⟩) (Kd.R_far (p:=⟨gb430,3,none⟩) (Kd.R_far (p:=⟨gb430,2,none⟩) (Kd.R_far (p:=⟨gb430,1,none⟩) (Kd.R_far (p:=⟨gb430,0,none⟩) (Kd.R_types HO411.out BK430.out (by decide)) (fun _ hk => hk.2) (.int .i64 t416)) (fun _ hk => hk.2) (.int .i64 t417)) (fun _ hk => hk.2) (.slice Ao35 t418.length co35)) (fun _ hk => hk.2) (.slice Ao36 t421.length co36)) (fun _ hk => hk.2) (.int .i64 t424)) (fun _ hk => hk.2) (.int .i64 t425)) (fun _ hk => hk.2) (.int .i64 t426)) (fun _ hk => hk.2) (.int .i64 t427)) (fun _ hk => hk.2) (.int .i64 t428)) (fun _ hk => hk.2) (.int .i64 t429)) (fun _ h_ => h_.1))))) (Kd.R_lt (by (with_reducible repeat (first | apply Kd.R_alloc | apply Kd.R_drewN | apply Kd.R_drew)); exact (Kd.R_mono (Kd.R_far (p:=⟨gb430,9,none⟩) (Kd.R_far (p:=⟨gb430,8,none⟩) (Kd.R_far (p:=⟨gb430,7,none⟩) (Kd.R_far (p:=⟨gb430,6,none⟩) (Kd.R_far (p:=⟨gb430,5,none⟩) (Kd.R_far (p:=⟨gb430,4,none⟩) (Kd.R_far (p:=⟨gb430,3,none⟩) (Kd.R_far (p:=⟨gb430,2,none⟩) (Kd.R_far (p:=⟨gb430,1,none⟩) (Kd.R_far (p:=⟨gb430,0,none⟩) (Kd.R_types HO414.out BK430.out (by decide)) (fun _ hk => hk.2) (.int .i64 t416)) (fun _ hk => hk.2) (.int .i64 t417)) (fun _ hk => hk.2) (.slice Ao35 t418.length co35)) (fun _ hk => hk.2) (.slice Ao36 t421.length co36)) (fun _ hk => hk.2) (.int .i64 t424)) (fun _ hk => hk.2) (.int .i64 t425)) (fun _ hk => hk.2) (.int .i64 t426)) (fun _ hk => hk.2) (.int .i64 t427)) (fun _ hk => hk.2) (.int .i64 t428)) (fun _ hk => hk.2) (.int .i64 t429)) (fun _ h_ => h_.1))))) (below_size bA)); have n7_ := Aside0.mk (bc BK392.out hb); have n8_ := Aside0.mk (blk_below (g:=gb430) (o:=.cells #[.int .i64 t416,.int .i64 t417,.slice Ao35 t418.length co35,.slice Ao36 t421.length co36,.int .i64 t424,.int .i64 t425,.int .i64 t426,.int .i64 t427,.int .i64 t428,.int .i64 t429] 35 (0,0)) (by (with_reducible repeat (first | refine blk_drewN ?_ _ | refine blk_drew ?_ | refine blk_alloc ?_ _)); apply blkp10; (with_reducible repeat (first | refine blk_drewN ?_ _ | refine blk_drew ?_ | refine blk_alloc ?_ _)); exact BK430.out) hb); have n9_ := Aside0.mk (below_step bA hb); clear HO399 HO402 HO411 HO414 HO420 HO423 BK392 BK430 HB; have HO399 := n0_; have HO402 := n1_; have HO411 := n2_; have HO414 := n3_; have HO420 := n4_; have HO423 := n5_; have HO433 := n6_; have BK392 := n7_; have BK430 := n8_; have HB := n9_; clear n0_ n1_ n2_ n3_ n4_ n5_ n6_ n7_ n8_ n9_; (try clear hb); (try clear hb2); (try clear hk); (try clear hi); (try clear ho0); obtain ⟨hcz38_0,hcz38_1,hcz38_2,hcz38_3,hcz38_4,hcz38_5,hcz38_6,hcz38_7,hcz38_8,hcz38_9⟩ := cl10 BK430.out; obtain ⟨hfz38_0,hfz38_1,hfz38_2,hfz38_3,hfz38_4,hfz38_5,hfz38_6,hfz38_7,hfz38_8,hfz38_9⟩ := fz10 BK430.out; obtain ⟨Ao39,co39,eo39⟩ := Kd.R_slice HO433.out; subst eo39) | ((with_reducible refine gate_callee (f:=9) rfl ?_); refine goesL_ (some 42) rfl rfl Tryz.func9 (by kernel_rfl) rfl #[.agg #[.int .i64 t416,.int .i64 t417,.slice Ao35 t418.length co35,.slice Ao36 t421.length co36,.int .i64 t424,.int .i64 t425,.int .i64 t426,.int .i64 t427,.int .i64 t428,.int .i64 t429],.slice Ao39 t431.length co39] rfl mA ?_; (with_reducible refine (impl_OrphansOf.calls k t416 t417 _ _ t418 _ _ t421 t424 t425 t426 t427 t428 t429 _ _ t431 t434 t437 _ ?side1 ?side2 ?side3 ?side4 ?side5 ?side6 ?side7 A18.out).mono ?_); (case side1 => exact HV.out.below bA); (case side2 => repeat (first | exact (Kd.R_reads' HO420.out).2.2 | (with_reducible refine Kd.C_alloc ?_ _) | (with_reducible refine Kd.C_drewN ?_ _) | (with_reducible refine Kd.C_drew ?_))); (case side3 => exact (Kd.R_reads' HO420.out).2.1); (case side4 => repeat (first | exact (Kd.R_reads' HO423.out).2.2 | (with_reducible refine Kd.C_alloc ?_ _) | (with_reducible refine Kd.C_drewN ?_ _) | (with_reducible refine Kd.C_drew ?_))); (case side5 => exact (Kd.R_reads' HO423.out).2.1); (case side6 => repeat (first | exact (Kd.R_reads' HO433.out).2.2 | (with_reducible refine Kd.C_alloc ?_ _) | (with_reducible refine Kd.C_drewN ?_ _) | (with_reducible refine Kd.C_drew ?_))); (case side7 => exact (Kd.R_reads' HO433.out).2.1); rintro e w40 ⟨v435,rfl,ho0,hb⟩; refine ⟨_,rfl,?_⟩; have n0_ := Aside0.mk (Kd.R_below (rA HO399.out) hb); have n1_ := Aside0.mk (Kd.R_below (rA HO402.out) hb); have n2_ := Aside0.mk (Kd.R_elder' (rA HO411.out) (Kd.R_base ho0) hb); have n3_ := Aside0.mk (Kd.R_elder' (rA HO414.out) (Kd.R_base ho0) hb); have n4_ := Aside0.mk (Kd.R_below (rA HO420.out) hb); have n5_ := Aside0.mk (Kd.R_below (rA HO423.out) hb); have n6_ := Aside0.mk (Kd.R_elder' (rA HO433.out) (Kd.R_base ho0) hb); have n7_ := Aside0.mk (Kd.R_lower (Kd.R_new' (Kd.R_new' (Kd.R_new' ho0 (Kd.R_lt (rA HO411.out))) (Kd.R_lt (rA HO414.out))) (Kd.R_lt (rA HO433.out))) (below_size bA)); have n8_ := Aside0.mk (bb BK392.out hb); have n9_ := Aside0.mk (bb BK430.out hb); have n10_ := Aside0.mk (below_step bA hb); clear HO399 HO402 HO411 HO414 HO420 HO423 HO433 BK392 BK430 HB; have HO399 := n0_; have HO402 := n1_; have HO411 := n2_; have HO414 := n3_; have HO420 := n4_; have HO423 := n5_; have HO433 := n6_; have HO436 := n7_; have BK392 := n8_; have BK430 := n9_; have HB := n10_; clear n0_ n1_ n2_ n3_ n4_ n5_ n6_ n7_ n8_ n9_ n10_; (try clear hb); (try clear hb2); (try clear hk); (try clear hi); (try clear ho0)))
   (try simp only [Act.put,setIfInBounds_toArray,set_cons_zero,set_cons_succ])
   go_cut [53] (fun v53 wc => ∃ (kq : Nat) (x53_18 : Bool),v53 = .bool x53_18 ∧ Aside0 (laws_FnExactOrphansOf.j0 kq l1 t412 t415 t431 t434 t437 x53_18 a0_0 a0_1 l0_2 l0_3 a0_4 a0_5 a0_6 a0_7 a0_8 a0_9 t416 t417 t418 t421 t424 t425 t426 t427 t428 t429 = some r) ∧ Aside0 (kq ≤ k) ∧ Aside0 (Kd.R Kd.string 9 wc w.heap.size (fun k_ => some k_ ≠ ((.slice Ao39 t431.length co39) : Value).ownBlock ∧ some k_ ≠ (v435 : Value).ownBlock) v413 t412) ∧ Aside0 (Kd.R Kd.string 9 wc w.heap.size (fun k_ => some k_ ≠ (v413 : Value).ownBlock ∧ some k_ ≠ (v435 : Value).ownBlock) (.slice Ao39 t431.length co39) t431) ∧ Aside0 (Kd.R Kd.string 9 wc w.heap.size (fun k_ => some k_ ≠ (v413 : Value).ownBlock ∧ some k_ ≠ ((.slice Ao39 t431.length co39) : Value).ownBlock) v435 t434) ∧ Aside0 (Kd.R k64 64 wc w.heap.size (fun _ => True) (.slice Ao35 t418.length co35) t418) ∧ Aside0 (Kd.R k71 71 wc w.heap.size (fun _ => True) (.slice Ao36 t421.length co36) t421) ∧ Aside0 (wc.heap[gb392]? = some (.cells #[.int .i64 a0_0,.int .i64 a0_1,(.slice A0_2 l0_2.length c0_2),(.slice A0_3 l0_3.length c0_3),.int .i64 a0_4,.int .i64 a0_5,.int .i64 a0_6,.int .i64 a0_7,.int .i64 a0_8,.int .i64 a0_9] 26 (0,0))) ∧ Aside0 (wc.heap[gb430]? = some (.cells #[.int .i64 t416,.int .i64 t417,(.slice Ao35 t418.length co35),(.slice Ao36 t421.length co36),.int .i64 t424,.int .i64 t425,.int .i64 t426,.int .i64 t427,.int .i64 t428,.int .i64 t429] 35 (0,0))) ∧ Aside0 (Below w.heap.size w wc))
   case first =>
    have H := HC19.out
    clear HC19
    replace H := Option.bind_eq_some_iff.mp H
    obtain ⟨t438,A410,H⟩ := H
    try dsimp only at H
    have A41 := Aside0.mk A410
    clear A410
    by_cases c42 : t438 = true
    ·subst c42
     rw [if_pos rfl] at H
     have H' := Aside0.mk H
     clear H
     obtain ⟨Ao43,co43,eo43⟩ := Kd.R_slice HO436.out
     subst eo43
     obtain ⟨Ao44,co44,eo44⟩ := Kd.R_slice HO414.out
     subst eo44
     go_wp2_with (first | ((with_reducible refine gate_callee (f:=10) rfl ?_); refine goesL_ (some 47) rfl rfl Tryz.func10 (by kernel_rfl) rfl #[.slice Ao43 t434.length co43,.slice Ao44 t412.length co44] rfl mA ?_; (with_reducible refine (laws_eqStringS.calls k _ _ t434 _ _ t412 true _ ?side1 ?side2 ?side3 ?side4 A41.out).mono ?_); (case side1 => repeat (first | exact (Kd.R_reads' HO436.out).2.2 | (with_reducible refine Kd.C_alloc ?_ _) | (with_reducible refine Kd.C_drewN ?_ _) | (with_reducible refine Kd.C_drew ?_))); (case side2 => exact (Kd.R_reads' HO436.out).2.1); (case side3 => repeat (first | exact (Kd.R_reads' HO414.out).2.2 | (with_reducible refine Kd.C_alloc ?_ _) | (with_reducible refine Kd.C_drewN ?_ _) | (with_reducible refine Kd.C_drew ?_))); (case side4 => exact (Kd.R_reads' HO414.out).2.1); rintro e w' ⟨rfl,⟨nd,rfl⟩⟩; refine ⟨_,rfl,?_⟩))
     go_meet
     case rel => exact ⟨_,((t437 != t415)),(by first | rfl | (simp; done) | (simp [*]; done)),H',⟨by first | omega | exact Nat.le_refl _⟩,⟨by (with_reducible repeat (first | apply Kd.R_alloc | apply Kd.R_drewN | apply Kd.R_drew)); exact Kd.R_mono HO414.out (fun _ hk => ⟨hk.1.2,hk.2⟩)⟩,⟨by (with_reducible repeat (first | apply Kd.R_alloc | apply Kd.R_drewN | apply Kd.R_drew)); exact Kd.R_mono HO433.out (fun _ hk => ⟨hk.1.2,hk.2⟩)⟩,⟨by (with_reducible repeat (first | apply Kd.R_alloc | apply Kd.R_drewN | apply Kd.R_drew)); exact Kd.R_mono HO436.out (fun _ hk => ⟨hk.1.2,hk.2⟩)⟩,⟨by (with_reducible repeat (first | apply Kd.R_alloc | apply Kd.R_drewN | apply Kd.R_drew)); exact Kd.R_mono HO420.out (fun _ hk => trivial)⟩,⟨by (with_reducible repeat (first | apply Kd.R_alloc | apply Kd.R_drewN | apply Kd.R_drew)); exact Kd.R_mono HO423.out (fun _ hk => trivial)⟩,⟨kA BK392.out⟩,⟨kA BK430.out⟩,⟨bA⟩⟩
    ·replace c42 := Bool.eq_false_iff.mpr c42
     subst c42
     rw [if_neg (show ¬ (false = true) by decide)] at H
     have H' := Aside0.mk H
     clear H
     obtain ⟨Ao45,co45,eo45⟩ := Kd.R_slice HO436.out
     subst eo45
     obtain ⟨Ao46,co46,eo46⟩ := Kd.R_slice HO414.out
     subst eo46
     go_wp2_with (first | ((with_reducible refine gate_callee (f:=10) rfl ?_); refine goesL_ (some 47) rfl rfl Tryz.func10 (by kernel_rfl) rfl #[.slice Ao45 t434.length co45,.slice Ao46 t412.length co46] rfl mA ?_; (with_reducible refine (laws_eqStringS.calls k _ _ t434 _ _ t412 false _ ?side1 ?side2 ?side3 ?side4 A41.out).mono ?_); (case side1 => repeat (first | exact (Kd.R_reads' HO436.out).2.2 | (with_reducible refine Kd.C_alloc ?_ _) | (with_reducible refine Kd.C_drewN ?_ _) | (with_reducible refine Kd.C_drew ?_))); (case side2 => exact (Kd.R_reads' HO436.out).2.1); (case side3 => repeat (first | exact (Kd.R_reads' HO414.out).2.2 | (with_reducible refine Kd.C_alloc ?_ _) | (with_reducible refine Kd.C_drewN ?_ _) | (with_reducible refine Kd.C_drew ?_))); (case side4 => exact (Kd.R_reads' HO414.out).2.1); rintro e w' ⟨rfl,⟨nd,rfl⟩⟩; refine ⟨_,rfl,?_⟩))
     go_meet
     case rel => exact ⟨_,(true),(by first | rfl | (simp; done) | (simp [*]; done)),H',⟨by first | omega | exact Nat.le_refl _⟩,⟨by (with_reducible repeat (first | apply Kd.R_alloc | apply Kd.R_drewN | apply Kd.R_drew)); exact Kd.R_mono HO414.out (fun _ hk => ⟨hk.1.2,hk.2⟩)⟩,⟨by (with_reducible repeat (first | apply Kd.R_alloc | apply Kd.R_drewN | apply Kd.R_drew)); exact Kd.R_mono HO433.out (fun _ hk => ⟨hk.1.2,hk.2⟩)⟩,⟨by (with_reducible repeat (first | apply Kd.R_alloc | apply Kd.R_drewN | apply Kd.R_drew)); exact Kd.R_mono HO436.out (fun _ hk => ⟨hk.1.2,hk.2⟩)⟩,⟨by (with_reducible repeat (first | apply Kd.R_alloc | apply Kd.R_drewN | apply Kd.R_drew)); exact Kd.R_mono HO420.out (fun _ hk => trivial)⟩,⟨by (with_reducible repeat (first | apply Kd.R_alloc | apply Kd.R_drewN | apply Kd.R_drew)); exact Kd.R_mono HO423.out (fun _ hk => trivial)⟩,⟨kA BK392.out⟩,⟨kA BK430.out⟩,⟨bA⟩⟩
   case rest =>
    clear HC19
    try clear c1
    try clear p2
    try clear c3
    try clear c4
    try clear c4b0
    try clear c5
    try clear c6
    try clear c7
    try clear c8
    try clear c9
    try clear c9b0
    try clear c10
    try clear c33
    try clear c42
    try clear hcz11_0 hcz11_1 hcz11_2 hcz11_3 hcz11_4 hcz11_5 hcz11_6 hcz11_7 hcz11_8 hcz11_9
    try clear hcz21_0 hcz21_1 hcz21_2 hcz21_3 hcz21_4 hcz21_5 hcz21_6 hcz21_7 hcz21_8 hcz21_9
    try clear hcz23_0 hcz23_1 hcz23_2 hcz23_3 hcz23_4 hcz23_5 hcz23_6 hcz23_7 hcz23_8 hcz23_9
    try clear hcz30_0 hcz30_1 hcz30_2 hcz30_3 hcz30_4 hcz30_5 hcz30_6 hcz30_7 hcz30_8 hcz30_9
    try clear hcz34_0 hcz34_1 hcz34_2 hcz34_3 hcz34_4 hcz34_5 hcz34_6 hcz34_7 hcz34_8 hcz34_9
    try clear hcz38_0 hcz38_1 hcz38_2 hcz38_3 hcz38_4 hcz38_5 hcz38_6 hcz38_7 hcz38_8 hcz38_9
    try clear hcz6_0 hcz6_1 hcz6_2 hcz6_3 hcz6_4 hcz6_5 hcz6_6 hcz6_7 hcz6_8 hcz6_9
    try clear hfz11_0 hfz11_1 hfz11_2 hfz11_3 hfz11_4 hfz11_5 hfz11_6 hfz11_7 hfz11_8 hfz11_9
    try clear hfz21_0 hfz21_1 hfz21_2 hfz21_3 hfz21_4 hfz21_5 hfz21_6 hfz21_7 hfz21_8 hfz21_9
    try clear hfz23_0 hfz23_1 hfz23_2 hfz23_3 hfz23_4 hfz23_5 hfz23_6 hfz23_7 hfz23_8 hfz23_9
    try clear hfz30_0 hfz30_1 hfz30_2 hfz30_3 hfz30_4 hfz30_5 hfz30_6 hfz30_7 hfz30_8 hfz30_9
    try clear hfz34_0 hfz34_1 hfz34_2 hfz34_3 hfz34_4 hfz34_5 hfz34_6 hfz34_7 hfz34_8 hfz34_9
    try clear hfz38_0 hfz38_1 hfz38_2 hfz38_3 hfz38_4 hfz38_5 hfz38_6 hfz38_7 hfz38_8 hfz38_9
    try clear hfz6_0 hfz6_1 hfz6_2 hfz6_3 hfz6_4 hfz6_5 hfz6_6 hfz6_7 hfz6_8 hfz6_9
    obtain ⟨kq,x53_18,rfl,HA,HJ18,HO_6,HO_9,HO_10,HO_431002,HO_431003,BK392,BK430,HB⟩ := hcut
    cases kq with
    | zero => exact absurd HA.out (by simp [laws_FnExactOrphansOf.j0])
    | succ kj18 =>
     have H := HA.out
     clear HA
     simp only [laws_FnExactOrphansOf.j0] at H
     by_cases c47 : x53_18 = true
     ·subst c47
      rw [if_pos rfl] at H
      exact absurd H (by simp)
     ·replace c47 := Bool.eq_false_iff.mpr c47
      subst c47
      rw [if_neg (show ¬ (false = true) by decide)] at H
      replace H := Option.bind_eq_some_iff.mp H
      obtain ⟨⟨t439,t440,t441,t444,t447,t448,t449,t450,t451,t452⟩,A480,H⟩ := H
      try dsimp only at H
      have A48 := Aside0.mk A480
      clear A480
      replace H := Option.bind_eq_some_iff.mp H
      obtain ⟨t453,A490,H⟩ := H
      try dsimp only at H
      have A49 := Aside0.mk A490
      clear A490
      by_cases c50 : t453 = true
      ·subst c50
       rw [if_pos rfl] at H
       replace H := Option.bind_eq_some_iff.mp H
       obtain ⟨t454,A510,H⟩ := H
       try dsimp only at H
       have A51 := Aside0.mk A510
       clear A510
       replace H := Option.bind_eq_some_iff.mp H
       obtain ⟨t457,A520,H⟩ := H
       try dsimp only at H
       have A52 := Aside0.mk A520
       clear A520
       by_cases c53 : t457 = true
       ·subst c53
        rw [if_pos rfl] at H
        replace H := Option.bind_eq_some_iff.mp H
        obtain ⟨⟨t458,t459,t460⟩,A540,H⟩ := H
        try dsimp only at H
        have A54 := Aside0.mk A540
        clear A540
        replace H := Option.bind_eq_some_iff.mp H
        obtain ⟨⟨t461,t462⟩,A550,H⟩ := H
        try dsimp only at H
        have A55 := Aside0.mk A550
        clear A550
        have HC56 := Aside0.mk H
        clear H
        try go_wp2
        have n0_ := Aside0.mk (Kd.R_drew HO_6.out)
        have n1_ := Aside0.mk (Kd.R_drew HO_9.out)
        have n2_ := Aside0.mk (Kd.R_drew HO_10.out)
        have n3_ := Aside0.mk (Kd.R_drew HO_431002.out)
        have n4_ := Aside0.mk (Kd.R_drew HO_431003.out)
        have n5_ := Aside0.mk (blk_drew BK392.out)
        have n6_ := Aside0.mk (blk_drew BK430.out)
        have n7_ := Aside0.mk (below_drew1 HB.out)
        clear HO_6 HO_9 HO_10 HO_431002 HO_431003 BK392 BK430 HB
        have HO_6 := n0_
        have HO_9 := n1_
        have HO_10 := n2_
        have HO_431002 := n3_
        have HO_431003 := n4_
        have BK392 := n5_
        have BK430 := n6_
        have HB := n7_
        clear n0_ n1_ n2_ n3_ n4_ n5_ n6_ n7_
        refine start_ (n:=5) (S:=fun w' => w'.cell? ⟨gb430,0,none⟩ = some (.int .i64 t416) ∧ w'.cell? ⟨gb430,1,none⟩ = some (.int .i64 t417) ∧ w'.cell? ⟨gb430,2,none⟩ = some (.slice Ao35 t418.length co35) ∧ w'.cell? ⟨gb430,3,none⟩ = some (.slice Ao36 t421.length co36) ∧ w'.cell? ⟨gb430,4,none⟩ = some (.int .i64 t424) ∧ w'.cell? ⟨gb430,5,none⟩ = some (.int .i64 t425) ∧ w'.cell? ⟨gb430,6,none⟩ = some (.int .i64 t426) ∧ w'.cell? ⟨gb430,7,none⟩ = some (.int .i64 t427) ∧ w'.cell? ⟨gb430,8,none⟩ = some (.int .i64 t428) ∧ w'.cell? ⟨gb430,9,none⟩ = some (.int .i64 t429) ∧ w'.cell? ⟨gb392,0,none⟩ = some (.int .i64 a0_0) ∧ w'.cell? ⟨gb392,1,none⟩ = some (.int .i64 a0_1) ∧ w'.cell? ⟨gb392,2,none⟩ = some (.slice A0_2 l0_2.length c0_2) ∧ w'.cell? ⟨gb392,3,none⟩ = some (.slice A0_3 l0_3.length c0_3) ∧ w'.cell? ⟨gb392,4,none⟩ = some (.int .i64 a0_4) ∧ w'.cell? ⟨gb392,5,none⟩ = some (.int .i64 a0_5) ∧ w'.cell? ⟨gb392,6,none⟩ = some (.int .i64 a0_6) ∧ w'.cell? ⟨gb392,7,none⟩ = some (.int .i64 a0_7) ∧ w'.cell? ⟨gb392,8,none⟩ = some (.int .i64 a0_8) ∧ w'.cell? ⟨gb392,9,none⟩ = some (.int .i64 a0_9)) (ds := []) (bm 5 0) (by kernel_rfl) rfl rfl ⟨bl BK430 0,bl BK430 1,bl BK430 2,bl BK430 3,bl BK430 4,bl BK430 5,bl BK430 6,bl BK430 7,bl BK430 8,bl BK430 9,bl BK392 0,bl BK392 1,bl BK392 2,bl BK392 3,bl BK392 4,bl BK392 5,bl BK392 6,bl BK392 7,bl BK392 8,bl BK392 9⟩ (fun hHeld => ?_)
        generalize wc.drew = w57 at HO_6 HO_9 HO_10 HO_431002 HO_431003 BK392 BK430 HB hHeld ⊢
        refine take_ (i:=0) (N:=some 54) (v:=?_) (a':=?_) (bm 5 1) rfl rfl (by kernel_rfl) (fun _ _ _ h => h) (Or.inl ⟨by rfl,?_⟩) hHeld ?_ ?_
        rotate_left
        ·rintro w' ⟨s0,s1,s2,s3,s4,s5,s6,s7,s8,s9,s10,s11,s12,s13,s14,s15,s16,s17,s18,s19⟩
         go_simp
         with_reducible rfl
        rotate_left
        ·simp only [Act.put,setIfInBounds_toArray,set_cons_zero,set_cons_succ,i64_w,i32_w]
         rfl
        refine take_ (i:=1) (N:=some 55) (v:=?_) (a':=?_) (bm 5 3) rfl rfl (by kernel_rfl) (fun _ _ _ h => h) (Or.inl ⟨by rfl,?_⟩) hHeld ?_ ?_
        rotate_left
        ·rintro w' ⟨s0,s1,s2,s3,s4,s5,s6,s7,s8,s9,s10,s11,s12,s13,s14,s15,s16,s17,s18,s19⟩
         go_simp
         with_reducible rfl
        rotate_left
        ·simp only [Act.put,setIfInBounds_toArray,set_cons_zero,set_cons_succ,i64_w,i32_w]
         rfl
        refine one_ (i:=2) (N:=some 56) (bm 5 7) rfl rfl (by kernel_rfl) (by decide) (fun K hK => ?_)
        refine goes_ Tryz.func7 (by kernel_rfl) rfl #[.agg #[.int .i64 a0_0,.int .i64 a0_1,.slice A0_2 l0_2.length c0_2,.slice A0_3 l0_3.length c0_3,.int .i64 a0_4,.int .i64 a0_5,.int .i64 a0_6,.int .i64 a0_7,.int .i64 a0_8,.int .i64 a0_9]] (by rfl) rfl rfl mA ?_
        with_reducible refine (laws_toState.calls kj18 a0_0 a0_1 _ _ l0_2 _ _ l0_3 a0_4 a0_5 a0_6 a0_7 a0_8 a0_9 t439 t440 t441 t444 t447 t448 t449 t450 t451 t452 _ ?side1 ?side2 ?side3 ?side4 A48.out).mono ?_
        (case side1 => exact sC HR0_2.out)
        (case side2 => exact HC0_2.out)
        (case side3 => exact sC HR0_3.out)
        (case side4 => exact HC0_3.out)
        rintro e w58 ⟨v442,v445,rfl,ho0,ho1,hb⟩
        refine ⟨_,rfl,?_⟩
        have n0_ := Aside0.mk (Kd.R_below (rA HO_6.out) hb)
        have n1_ := Aside0.mk (Kd.R_below (rA HO_9.out) hb)
        have n2_ := Aside0.mk (Kd.R_below (rA HO_10.out) hb)
        have n3_ := Aside0.mk (Kd.R_elder' (rA HO_431002.out) (Kd.R_base ho0) hb)
        have n4_ := Aside0.mk (Kd.R_elder' (rA HO_431003.out) (Kd.R_base ho1) hb)
        have n5_ := Aside0.mk (Kd.R_lower (Kd.R_new' ho0 (Kd.R_lt (rA HO_431002.out))) (below_size bA))
        have n6_ := Aside0.mk (Kd.R_lower (Kd.R_new' ho1 (Kd.R_lt (rA HO_431003.out))) (below_size bA))
        have n7_ := Aside0.mk (bb BK392.out hb)
        have n8_ := Aside0.mk (bb BK430.out hb)
        have n9_ := Aside0.mk (below_step bA hb)
        clear HO_6 HO_9 HO_10 HO_431002 HO_431003 BK392 BK430 HB
        have HO_6 := n0_
        have HO_9 := n1_
        have HO_10 := n2_
        have HO_431002 := n3_
        have HO_431003 := n4_
        have HO443 := n5_
        have HO446 := n6_
        have BK392 := n7_
        have BK430 := n8_
        have HB := n9_
        clear n0_ n1_ n2_ n3_ n4_ n5_ n6_ n7_ n8_ n9_
        (try clear hb)
        (try clear hb2)
        (try clear hk)
        (try clear hi)
        (try clear ho0)
        (try clear ho1)
        obtain ⟨Ao59,co59,eo59⟩ := Kd.R_slice HO443.out
        (first | subst eo59 | (injection eo59 with f1_ f2_ f3_; have f4_ := f1_.symm; have f5_ := f3_.symm; clear f1_ f2_ f3_; subst f4_; subst f5_))
        obtain ⟨Ao60,co60,eo60⟩ := Kd.R_slice HO446.out
        (first | subst eo60 | (injection eo60 with f1_ f2_ f3_; have f4_ := f1_.symm; have f5_ := f3_.symm; clear f1_ f2_ f3_; subst f4_; subst f5_))
        refine hK.out _ _ ⟨bl BK430 0,bl BK430 1,bl BK430 2,bl BK430 3,bl BK430 4,bl BK430 5,bl BK430 6,bl BK430 7,bl BK430 8,bl BK430 9,bl BK392 0,bl BK392 1,bl BK392 2,bl BK392 3,bl BK392 4,bl BK392 5,bl BK392 6,bl BK392 7,bl BK392 8,bl BK392 9⟩ (fun hHeld => ?_)
        clear hK K
        refine norm_ (a':=?_) ?_ ?_
        rotate_left
        ·show Act.put _ (some 56) _ = _
         simp only [Act.put,setIfInBounds_toArray,set_cons_zero,set_cons_succ,i64_w,i32_w]
         rfl
        refine one_ (i:=3) (N:=some 57) (bm 5 15) rfl rfl (by kernel_rfl) (by decide) (fun K hK => ?_)
        refine goes_ Tryz.func11 (by kernel_rfl) rfl #[.agg #[.int .i64 t416,.int .i64 t417,.slice Ao35 t418.length co35,.slice Ao36 t421.length co36,.int .i64 t424,.int .i64 t425,.int .i64 t426,.int .i64 t427,.int .i64 t428,.int .i64 t429],.agg #[.int .i64 t439,.int .i64 t440,.slice Ao59 t441.length co59,.slice Ao60 t444.length co60,.int .i64 t447,.int .i64 t448,.int .i64 t449,.int .i64 t450,.int .i64 t451,.int .i64 t452]] (by rfl) rfl rfl mA ?_
        with_reducible refine (laws_eqState.calls kj18 t416 t417 _ _ t418 _ _ t421 t424 t425 t426 t427 t428 t429 t439 t440 _ _ t441 _ _ t444 t447 t448 t449 t450 t451 t452 true _ ?side1 ?side2 ?side3 ?side4 ?side5 ?side6 ?side7 ?side8 A49.out).mono ?_
        (case side1 => repeat (first | exact (Kd.R_reads' HO_431002.out).2.2 | (with_reducible refine Kd.C_alloc ?_ _) | (with_reducible refine Kd.C_drewN ?_ _) | (with_reducible refine Kd.C_drew ?_)))
        (case side2 => exact (Kd.R_reads' HO_431002.out).2.1)
        (case side3 => repeat (first | exact (Kd.R_reads' HO_431003.out).2.2 | (with_reducible refine Kd.C_alloc ?_ _) | (with_reducible refine Kd.C_drewN ?_ _) | (with_reducible refine Kd.C_drew ?_)))
        (case side4 => exact (Kd.R_reads' HO_431003.out).2.1)
        (case side5 => repeat (first | exact (Kd.R_reads' HO443.out).2.2 | (with_reducible refine Kd.C_alloc ?_ _) | (with_reducible refine Kd.C_drewN ?_ _) | (with_reducible refine Kd.C_drew ?_)))
        (case side6 => exact (Kd.R_reads' HO443.out).2.1)
        (case side7 => repeat (first | exact (Kd.R_reads' HO446.out).2.2 | (with_reducible refine Kd.C_alloc ?_ _) | (with_reducible refine Kd.C_drewN ?_ _) | (with_reducible refine Kd.C_drew ?_)))
        (case side8 => exact (Kd.R_reads' HO446.out).2.1)
        rintro e w61 ⟨rfl,hb⟩
        refine ⟨_,rfl,?_⟩
        have n0_ := Aside0.mk (Kd.R_below (rA HO_6.out) hb)
        have n1_ := Aside0.mk (Kd.R_below (rA HO_9.out) hb)
        have n2_ := Aside0.mk (Kd.R_below (rA HO_10.out) hb)
        have n3_ := Aside0.mk (Kd.R_below (rA HO_431002.out) hb)
        have n4_ := Aside0.mk (Kd.R_below (rA HO_431003.out) hb)
        have n5_ := Aside0.mk (Kd.R_below (rA HO443.out) hb)
        have n6_ := Aside0.mk (Kd.R_below (rA HO446.out) hb)
        have n7_ := Aside0.mk (bb BK392.out hb)
        have n8_ := Aside0.mk (bb BK430.out hb)
        have n9_ := Aside0.mk (below_step bA hb)
        clear HO_6 HO_9 HO_10 HO_431002 HO_431003 HO443 HO446 BK392 BK430 HB
        have HO_6 := n0_
        have HO_9 := n1_
        have HO_10 := n2_
        have HO_431002 := n3_
        have HO_431003 := n4_
        have HO443 := n5_
        have HO446 := n6_
        have BK392 := n7_
        have BK430 := n8_
        have HB := n9_
        clear n0_ n1_ n2_ n3_ n4_ n5_ n6_ n7_ n8_ n9_
        (try clear hb)
        (try clear hb2)
        (try clear hk)
        (try clear hi)
        refine hK.out _ _ ⟨bl BK430 0,bl BK430 1,bl BK430 2,bl BK430 3,bl BK430 4,bl BK430 5,bl BK430 6,bl BK430 7,bl BK430 8,bl BK430 9,bl BK392 0,bl BK392 1,bl BK392 2,bl BK392 3,bl BK392 4,bl BK392 5,bl BK392 6,bl BK392 7,bl BK392 8,bl BK392 9⟩ (fun hHeld => ?_)
        clear hK K
        refine norm_ (a':=?_) ?_ ?_
        rotate_left
        ·show Act.put _ (some 57) _ = _
         simp only [Act.put,setIfInBounds_toArray,set_cons_zero,set_cons_succ,i64_w,i32_w]
         rfl
        refine pure_ (i:=4) (N:=some 58) (v:=?_) (a':=?_) (bm 5 31) rfl rfl (by kernel_rfl) (fun _ _ _ h => h) (Or.inl ⟨by rfl,?_⟩) ?_ ?_
        rotate_left
        ·intro w'
         go_simp
         with_reducible rfl
        rotate_left
        ·simp only [Act.put,setIfInBounds_toArray,set_cons_zero,set_cons_succ,i64_w,i32_w]
         rfl
        refine done_ (by kernel_rfl) ?_
        go_upto_region 21 with (first | ((with_reducible refine gate_callee (f:=8) rfl ?_); refine goesL_ (some 61) rfl rfl Tryz.func8 (by kernel_rfl) rfl #[.slice A1 l1.length c1] rfl mA ?_; (with_reducible refine (laws_toStringS.calls kj18 _ _ l1 t454 _ ?side1 ?side2 A51.out).mono ?_); (case side1 => exact sC HR1.out); (case side2 => exact HC1.out); rintro e w62 ⟨v455,rfl,ho0,hb⟩; refine ⟨_,rfl,?_⟩; have n0_ := Aside0.mk (Kd.R_elder' (rA HO_6.out) (Kd.R_base ho0) hb); have n1_ := Aside0.mk (Kd.R_elder' (rA HO_9.out) (Kd.R_base ho0) hb); have n2_ := Aside0.mk (Kd.R_elder' (rA HO_10.out) (Kd.R_base ho0) hb); have n3_ := Aside0.mk (Kd.R_below (rA HO_431002.out) hb); have n4_ := Aside0.mk (Kd.R_below (rA HO_431003.out) hb); have n5_ := Aside0.mk (Kd.R_below (rA HO443.out) hb); have n6_ := Aside0.mk (Kd.R_below (rA HO446.out) hb); have n7_ := Aside0.mk (Kd.R_lower (Kd.R_new' (Kd.R_new' (Kd.R_new' ho0 (Kd.R_lt (rA HO_6.out))) (Kd.R_lt (rA HO_9.out))) (Kd.R_lt (rA HO_10.out))) (below_size bA)); have n8_ := Aside0.mk (bb BK392.out hb); have n9_ := Aside0.mk (bb BK430.out hb); have n10_ := Aside0.mk (below_step bA hb); clear HO_6 HO_9 HO_10 HO_431002 HO_431003 HO443 HO446 BK392 BK430 HB; have HO_6 := n0_; have HO_9 := n1_; have HO_10 := n2_; have HO_431002 := n3_; have HO_431003 := n4_; have HO443 := n5_; have HO446 := n6_; have HO456 := n7_; have BK392 := n8_; have BK430 := n9_; have HB := n10_; clear n0_ n1_ n2_ n3_ n4_ n5_ n6_ n7_ n8_ n9_ n10_; (try clear hb); (try clear hb2); (try clear hk); (try clear hi); (try clear ho0); obtain ⟨Ao63,co63,eo63⟩ := Kd.R_slice HO456.out; subst eo63) | ((with_reducible refine gate_callee (f:=10) rfl ?_); refine goesL_ (some 62) rfl rfl Tryz.func10 (by kernel_rfl) rfl #[.slice Ao39 t431.length co39,.slice Ao63 t454.length co63] rfl mA ?_; (with_reducible refine (laws_eqStringS.calls kj18 _ _ t431 _ _ t454 true _ ?side1 ?side2 ?side3 ?side4 A52.out).mono ?_); (case side1 => repeat (first | exact (Kd.R_reads' HO_9.out).2.2 | (with_reducible refine Kd.C_alloc ?_ _) | (with_reducible refine Kd.C_drewN ?_ _) | (with_reducible refine Kd.C_drew ?_))); (case side2 => exact (Kd.R_reads' HO_9.out).2.1); (case side3 => repeat (first | exact (Kd.R_reads' HO456.out).2.2 | (with_reducible refine Kd.C_alloc ?_ _) | (with_reducible refine Kd.C_drewN ?_ _) | (with_reducible refine Kd.C_drew ?_))); (case side4 => exact (Kd.R_reads' HO456.out).2.1); rintro e w' ⟨rfl,⟨nd,rfl⟩⟩; refine ⟨_,rfl,?_⟩; have hnb64 := NB430_392.out; have hnc64 := NB392_430.out; obtain ⟨hcz65_0,hcz65_1,hcz65_2,hcz65_3,hcz65_4,hcz65_5,hcz65_6,hcz65_7,hcz65_8,hcz65_9⟩ := cl10 BK430.out; obtain ⟨hfz65_0,hfz65_1,hfz65_2,hfz65_3,hfz65_4,hfz65_5,hfz65_6,hfz65_7,hfz65_8,hfz65_9⟩ := fz10 BK430.out) | ((with_reducible refine gate_callee (f:=12) rfl ?_); refine goesL_ (some 66) rfl rfl Tryz.func12 (by kernel_rfl) rfl #[.agg #[.int .i64 t416,.int .i64 t417,.slice Ao35 t418.length co35,.slice Ao36 t421.length co36,.int .i64 t424,.int .i64 t425,.int .i64 t426,.int .i64 t427,.int .i64 t428,.int .i64 t429],.int .i64 1] rfl mA ?_; (with_reducible refine (laws_markState.calls kj18 t416 t417 (fun k_ => some k_ = (.slice Ao35 t418.length co35 : Value).ownBlock) (.slice Ao35 t418.length co35) t418 (fun k_ => some k_ = (.slice Ao36 t421.length co36 : Value).ownBlock) (.slice Ao36 t421.length co36) t421 t424 t425 t426 t427 t428 t429 1 t458 t459 t460 w _ ?side1 ?side2 ?side3 A54.out).mono ?_); (case side1 => exact bA); (case side2 => exact Kd.R_tight rfl HO_431002.out); (case side3 => exact Kd.R_tight rfl HO_431003.out); rintro e w66 ⟨rfl,hy0,hy1,hb,hkp⟩; refine ⟨_,rfl,?_⟩; have n0_ := Aside0.mk (Kd.R_mono (ok' := fun k_ => some k_ ≠ (.slice Ao39 t431.length co39 : Value).ownBlock ∧ some k_ ≠ (v435 : Value).ownBlock ∧ some k_ ≠ (.slice Ao63 t454.length co63 : Value).ownBlock) (Kd.R_keptB ((Kd.R_apart' (Kd.R_apart' HO_6.out (Kd.R_typed HO_431002.out) (by decide)) (Kd.R_typed HO_431003.out) (by decide))) hkp (fun k_ hk_ hs_ => Or.elim hs_ (fun e_ => (hk_.1.2) e_) (fun e_ => (hk_.2) e_))) (fun k_ hk_ => ⟨hk_.1.1.1.1.1,hk_.1.1.1.1.2,hk_.1.1.1.2⟩)); have n1_ := Aside0.mk (Kd.R_mono (ok' := fun k_ => some k_ ≠ (v413 : Value).ownBlock ∧ some k_ ≠ (v435 : Value).ownBlock ∧ some k_ ≠ (.slice Ao63 t454.length co63 : Value).ownBlock) (Kd.R_keptB ((Kd.R_apart' (Kd.R_apart' HO_9.out (Kd.R_typed HO_431002.out) (by decide)) (Kd.R_typed HO_431003.out) (by decide))) hkp (fun k_ hk_ hs_ => Or.elim hs_ (fun e_ => (hk_.1.2) e_) (fun e_ => (hk_.2) e_))) (fun k_ hk_ => ⟨hk_.1.1.1.1.1,hk_.1.1.1.1.2,hk_.1.1.1.2⟩)); have n2_ := Aside0.mk (Kd.R_mono (ok' := fun k_ => some k_ ≠ (v413 : Value).ownBlock ∧ some k_ ≠ (.slice Ao39 t431.length co39 : Value).ownBlock ∧ some k_ ≠ (.slice Ao63 t454.length co63 : Value).ownBlock) (Kd.R_keptB ((Kd.R_apart' (Kd.R_apart' HO_10.out (Kd.R_typed HO_431002.out) (by decide)) (Kd.R_typed HO_431003.out) (by decide))) hkp (fun k_ hk_ hs_ => Or.elim hs_ (fun e_ => (hk_.1.2) e_) (fun e_ => (hk_.2) e_))) (fun k_ hk_ => ⟨hk_.1.1.1.1.1,hk_.1.1.1.1.2,hk_.1.1.1.2⟩)); have n3_ := Aside0.mk (Kd.R_reok rfl hy0 (fun k_ e_ => HO_431002.out.1 k_ e_)); have n4_ := Aside0.mk (Kd.R_reok rfl hy1 (fun k_ e_ => HO_431003.out.1 k_ e_)); have n5_ := Aside0.mk (blk_kept (kA BK392.out) hkp (fun hs_ => Or.elim hs_ (fun e_ => (fun e_ => (Kd.R_ne HO_431002.out BK392.out (by decide)) e_) e_) (fun e_ => (fun e_ => (Kd.R_ne HO_431003.out BK392.out (by decide)) e_) e_))); have n6_ := Aside0.mk (blk_kept (kA BK430.out) hkp (fun hs_ => Or.elim hs_ (fun e_ => (fun e_ => (Kd.R_ne HO_431002.out BK430.out (by decide)) e_) e_) (fun e_ => (fun e_ => (Kd.R_ne HO_431003.out BK430.out (by decide)) e_) e_))); have n7_ := Aside0.mk (Kd.R_mono (ok' := fun k_ => some k_ ≠ (.slice Ao35 t418.length co35 : Value).ownBlock) (Kd.R_keptB ((Kd.R_apart' HO443.out (Kd.R_typed HO_431003.out) (by decide))) hkp (fun k_ hk_ hs_ => Or.elim hs_ (fun e_ => (hk_.1.2) e_) (fun e_ => (hk_.2) e_))) (fun k_ hk_ => hk_.1.1.2)); have n8_ := Aside0.mk (Kd.R_mono (ok' := fun k_ => some k_ ≠ (.slice Ao36 t421.length co36 : Value).ownBlock) (Kd.R_keptB ((Kd.R_apart' HO446.out (Kd.R_typed HO_431002.out) (by decide))) hkp (fun k_ hk_ hs_ => Or.elim hs_ (fun e_ => (hk_.2) e_) (fun e_ => (hk_.1.2) e_))) (fun k_ hk_ => hk_.1.1.2)); have n9_ := Aside0.mk (Kd.R_mono (ok' := fun k_ => some k_ ≠ (v413 : Value).ownBlock ∧ some k_ ≠ (.slice Ao39 t431.length co39 : Value).ownBlock ∧ some k_ ≠ (v435 : Value).ownBlock) (Kd.R_keptB ((Kd.R_apart' (Kd.R_apart' HO456.out (Kd.R_typed HO_431002.out) (by decide)) (Kd.R_typed HO_431003.out) (by decide))) hkp (fun k_ hk_ hs_ => Or.elim hs_ (fun e_ => (hk_.1.2) e_) (fun e_ => (hk_.2) e_))) (fun k_ hk_ => ⟨hk_.1.1.1.1.1.2,hk_.1.1.1.1.2,hk_.1.1.1.2⟩)); have n10_ := Aside0.mk (hb); clear HO_6 HO_9 HO_10 HO_431002 HO_431003 BK392 BK430 HO443 HO446 HO456 HB; have HO_6 := n0_; have HO_9 := n1_; have HO_10 := n2_; have HO_431002 := n3_; have HO_431003 := n4_; have BK392 := n5_; have BK430 := n6_; have HO443 := n7_; have HO446 := n8_; have HO456 := n9_; have HB := n10_; clear n0_ n1_ n2_ n3_ n4_ n5_ n6_ n7_ n8_ n9_ n10_; (try clear hb); (try clear hkp); (try clear hy0); (try clear hy1)) | ((with_reducible refine gate_callee (f:=13) rfl ?_); refine goesL_ (some 69) rfl rfl Tryz.func13 (by kernel_rfl) rfl #[.slice Ao39 t431.length co39,.int .i64 t458] rfl mA ?_; (with_reducible refine (laws_markStringS.calls kj18 (fun k_ => some k_ = (.slice Ao39 t431.length co39 : Value).ownBlock) (.slice Ao39 t431.length co39) t431 t458 t461 t462 w _ ?side1 ?side2 A55.out).mono ?_); (case side1 => exact bA); (case side2 => exact Kd.R_tight rfl HO_9.out); rintro e w67 ⟨rfl,hy0,hb,hkp⟩; refine ⟨_,rfl,?_⟩; have n0_ := Aside0.mk (Kd.R_mono (ok' := fun k_ => some k_ ≠ (.slice Ao39 t431.length co39 : Value).ownBlock ∧ some k_ ≠ (v435 : Value).ownBlock ∧ some k_ ≠ (.slice Ao63 t454.length co63 : Value).ownBlock) (Kd.R_keptB (HO_6.out) hkp (fun k_ hk_ hs_ => (hk_.1) hs_)) (fun k_ hk_ => ⟨hk_.1.1,hk_.1.2.1,hk_.1.2.2⟩)); have n1_ := Aside0.mk (Kd.R_reok rfl hy0 (fun k_ e_ => HO_9.out.1 k_ e_)); have n2_ := Aside0.mk (Kd.R_mono (ok' := fun k_ => some k_ ≠ (v413 : Value).ownBlock ∧ some k_ ≠ (.slice Ao39 t431.length co39 : Value).ownBlock ∧ some k_ ≠ (.slice Ao63 t454.length co63 : Value).ownBlock) (Kd.R_keptB (HO_10.out) hkp (fun k_ hk_ hs_ => (hk_.2.1) hs_)) (fun k_ hk_ => ⟨hk_.1.1,hk_.1.2.1,hk_.1.2.2⟩)); have n3_ := Aside0.mk (Kd.R_mono (ok' := fun k_ => some k_ ≠ (.slice Ao59 t441.length co59 : Value).ownBlock) (Kd.R_keptB ((Kd.R_apart' HO_431002.out (Kd.R_typed HO_9.out) (by decide))) hkp (fun k_ hk_ hs_ => (hk_.2) hs_)) (fun k_ hk_ => hk_.1.1.2)); have n4_ := Aside0.mk (Kd.R_mono (ok' := fun k_ => some k_ ≠ (.slice Ao60 t444.length co60 : Value).ownBlock) (Kd.R_keptB ((Kd.R_apart' HO_431003.out (Kd.R_typed HO_9.out) (by decide))) hkp (fun k_ hk_ hs_ => (hk_.2) hs_)) (fun k_ hk_ => hk_.1.1.2)); have n5_ := Aside0.mk (blk_kept (kA BK392.out) hkp (fun hs_ => (fun e_ => (Kd.R_ne HO_9.out BK392.out (by decide)) e_) hs_)); have n6_ := Aside0.mk (blk_kept (kA BK430.out) hkp (fun hs_ => (fun e_ => (Kd.R_ne HO_9.out BK430.out (by decide)) e_) hs_)); have n7_ := Aside0.mk (Kd.R_mono (ok' := fun k_ => some k_ ≠ (.slice Ao35 t418.length co35 : Value).ownBlock) (Kd.R_keptB ((Kd.R_apart' HO443.out (Kd.R_typed HO_9.out) (by decide))) hkp (fun k_ hk_ hs_ => (hk_.2) hs_)) (fun k_ hk_ => hk_.1.1)); have n8_ := Aside0.mk (Kd.R_mono (ok' := fun k_ => some k_ ≠ (.slice Ao36 t421.length co36 : Value).ownBlock) (Kd.R_keptB ((Kd.R_apart' HO446.out (Kd.R_typed HO_9.out) (by decide))) hkp (fun k_ hk_ hs_ => (hk_.2) hs_)) (fun k_ hk_ => hk_.1.1)); have n9_ := Aside0.mk (Kd.R_mono (ok' := fun k_ => some k_ ≠ (v413 : Value).ownBlock ∧ some k_ ≠ (.slice Ao39 t431.length co39 : Value).ownBlock ∧ some k_ ≠ (v435 : Value).ownBlock) (Kd.R_keptB (HO456.out) hkp (fun k_ hk_ hs_ => (hk_.2.1) hs_)) (fun k_ hk_ => ⟨hk_.1.1,hk_.1.2.1,hk_.1.2.2⟩)); have n10_ := Aside0.mk (hb); clear HO_6 HO_9 HO_10 HO_431002 HO_431003 BK392 BK430 HO443 HO446 HO456 HB; have HO_6 := n0_; have HO_9 := n1_; have HO_10 := n2_; have HO_431002 := n3_; have HO_431003 := n4_; have BK392 := n5_; have BK430 := n6_; have HO443 := n7_; have HO446 := n8_; have HO456 := n9_; have HB := n10_; clear n0_ n1_ n2_ n3_ n4_ n5_ n6_ n7_ n8_ n9_ n10_; (try clear hb); (try clear hkp); (try clear hy0)))
        (try simp only [Act.put,setIfInBounds_toArray,set_cons_zero,set_cons_succ])
        go_cut [82] (fun v82 wc => ∃ (kq : Nat) (x82_55 : Bool),v82 = .bool x82_55 ∧ Aside0 (laws_FnExactOrphansOf.j1 kq l1 t412 t415 t434 x82_55 a0_0 a0_1 l0_2 l0_3 a0_4 a0_5 a0_6 a0_7 a0_8 a0_9 = some r) ∧ Aside0 (kq ≤ kj18) ∧ Aside0 (Kd.R Kd.string 9 wc w.heap.size (fun k_ => some k_ ≠ (v435 : Value).ownBlock) v413 t412) ∧ Aside0 (Kd.R Kd.string 9 wc w.heap.size (fun k_ => some k_ ≠ (v413 : Value).ownBlock) v435 t434) ∧ Aside0 (Kd.R k64 64 wc w.heap.size (fun _ => True) (.slice Ao35 t418.length co35) t459) ∧ Aside0 (Kd.R k71 71 wc w.heap.size (fun _ => True) (.slice Ao36 t421.length co36) t460) ∧ Aside0 (wc.heap[gb392]? = some (.cells #[.int .i64 a0_0,.int .i64 a0_1,(.slice A0_2 l0_2.length c0_2),(.slice A0_3 l0_3.length c0_3),.int .i64 a0_4,.int .i64 a0_5,.int .i64 a0_6,.int .i64 a0_7,.int .i64 a0_8,.int .i64 a0_9] 26 (0,0))) ∧ Aside0 (wc.heap[gb430]? = some (.cells #[.int .i64 t416,.int .i64 t417,(.slice Ao35 t418.length co35),(.slice Ao36 t421.length co36),.int .i64 t424,.int .i64 t425,.int .i64 t426,.int .i64 t427,.int .i64 t428,.int .i64 t429] 35 (0,0))) ∧ Aside0 (Below w.heap.size w wc))
        case first =>
         have H := HC56.out
         clear HC56
         by_cases c68 : t461 < 0
         ·rw [if_pos c68] at H
          have c68b0 : decide (t461 < 0) = true := decide_eq_true c68
          clear c68
          (first | rw [c68b0] | (simp only [i64_w,i32_w]; rw [c68b0]) | skip)
          have H' := Aside0.mk H
          clear H
          go_wp2
          go_meet
          case rel => exact ⟨_,(true),(by first | rfl | (simp; done) | (simp [*]; done)),H',⟨by have := HJ18.out; first | omega | exact Nat.le_refl _⟩,⟨by (with_reducible repeat (first | apply Kd.R_alloc | apply Kd.R_drewN | apply Kd.R_drew)); exact Kd.R_mono HO_6.out (fun _ hk => hk.2.1)⟩,⟨by (with_reducible repeat (first | apply Kd.R_alloc | apply Kd.R_drewN | apply Kd.R_drew)); exact Kd.R_mono HO_10.out (fun _ hk => hk.1)⟩,⟨by (with_reducible repeat (first | apply Kd.R_alloc | apply Kd.R_drewN | apply Kd.R_drew)); exact Kd.R_mono HO_431002.out (fun _ hk => trivial)⟩,⟨by (with_reducible repeat (first | apply Kd.R_alloc | apply Kd.R_drewN | apply Kd.R_drew)); exact Kd.R_mono HO_431003.out (fun _ hk => trivial)⟩,⟨kA BK392.out⟩,⟨kA BK430.out⟩,⟨bA⟩⟩
         ·rw [if_neg c68] at H
          have c68b0 : decide (t461 < 0) = false := decide_eq_false c68
          clear c68
          (first | rw [c68b0] | (simp only [i64_w,i32_w]; rw [c68b0]) | skip)
          replace H := Option.bind_eq_some_iff.mp H
          obtain ⟨t463,A690,H⟩ := H
          try dsimp only at H
          have A69 := Aside0.mk A690
          clear A690
          by_cases c70 : t463 = true
          ·subst c70
           rw [if_pos rfl] at H
           have H' := Aside0.mk H
           clear H
           obtain ⟨Ao71,co71,eo71⟩ := Kd.R_slice HO_10.out
           subst eo71
           obtain ⟨Ao72,co72,eo72⟩ := Kd.R_slice HO_6.out
           subst eo72
           go_wp2_with (first | (go_at_call 10; (with_reducible refine (laws_eqStringS.calls kj18 _ _ t434 _ _ t412 true _ ?side1 ?side2 ?side3 ?side4 A69.out).mono ?_); (case side1 => repeat (first | exact (Kd.R_reads' HO_10.out).2.2 | (with_reducible refine Kd.C_alloc ?_ _) | (with_reducible refine Kd.C_drewN ?_ _) | (with_reducible refine Kd.C_drew ?_))); (case side2 => exact (Kd.R_reads' HO_10.out).2.1); (case side3 => repeat (first | exact (Kd.R_reads' HO_6.out).2.2 | (with_reducible refine Kd.C_alloc ?_ _) | (with_reducible refine Kd.C_drewN ?_ _) | (with_reducible refine Kd.C_drew ?_))); (case side4 => exact (Kd.R_reads' HO_6.out).2.1); rintro e w' ⟨rfl,⟨nd,rfl⟩⟩))
           go_meet
           case rel => exact ⟨_,((t437 != t415)),(by first | rfl | (simp; done) | (simp [*]; done)),H',⟨by have := HJ18.out; first | omega | exact Nat.le_refl _⟩,⟨by (with_reducible repeat (first | apply Kd.R_alloc | apply Kd.R_drewN | apply Kd.R_drew)); exact Kd.R_mono HO_6.out (fun _ hk => hk.2.1)⟩,⟨by (with_reducible repeat (first | apply Kd.R_alloc | apply Kd.R_drewN | apply Kd.R_drew)); exact Kd.R_mono HO_10.out (fun _ hk => hk.1)⟩,⟨by (with_reducible repeat (first | apply Kd.R_alloc | apply Kd.R_drewN | apply Kd.R_drew)); exact Kd.R_mono HO_431002.out (fun _ hk => trivial)⟩,⟨by (with_reducible repeat (first | apply Kd.R_alloc | apply Kd.R_drewN | apply Kd.R_drew)); exact Kd.R_mono HO_431003.out (fun _ hk => trivial)⟩,⟨kA BK392.out⟩,⟨kA BK430.out⟩,⟨bA⟩⟩
          ·replace c70 := Bool.eq_false_iff.mpr c70
           subst c70
           rw [if_neg (show ¬ (false = true) by decide)] at H
           have H' := Aside0.mk H
           clear H
           obtain ⟨Ao73,co73,eo73⟩ := Kd.R_slice HO_10.out
           subst eo73
           obtain ⟨Ao74,co74,eo74⟩ := Kd.R_slice HO_6.out
           subst eo74
           go_wp2_with (first | (go_at_call 10; (with_reducible refine (laws_eqStringS.calls kj18 _ _ t434 _ _ t412 false _ ?side1 ?side2 ?side3 ?side4 A69.out).mono ?_); (case side1 => repeat (first | exact (Kd.R_reads' HO_10.out).2.2 | (with_reducible refine Kd.C_alloc ?_ _) | (with_reducible refine Kd.C_drewN ?_ _) | (with_reducible refine Kd.C_drew ?_))); (case side2 => exact (Kd.R_reads' HO_10.out).2.1); (case side3 => repeat (first | exact (Kd.R_reads' HO_6.out).2.2 | (with_reducible refine Kd.C_alloc ?_ _) | (with_reducible refine Kd.C_drewN ?_ _) | (with_reducible refine Kd.C_drew ?_))); (case side4 => exact (Kd.R_reads' HO_6.out).2.1); rintro e w' ⟨rfl,⟨nd,rfl⟩⟩))
           go_meet
           case rel => exact ⟨_,(true),(by first | rfl | (simp; done) | (simp [*]; done)),H',⟨by have := HJ18.out; first | omega | exact Nat.le_refl _⟩,⟨by (with_reducible repeat (first | apply Kd.R_alloc | apply Kd.R_drewN | apply Kd.R_drew)); exact Kd.R_mono HO_6.out (fun _ hk => hk.2.1)⟩,⟨by (with_reducible repeat (first | apply Kd.R_alloc | apply Kd.R_drewN | apply Kd.R_drew)); exact Kd.R_mono HO_10.out (fun _ hk => hk.1)⟩,⟨by (with_reducible repeat (first | apply Kd.R_alloc | apply Kd.R_drewN | apply Kd.R_drew)); exact Kd.R_mono HO_431002.out (fun _ hk => trivial)⟩,⟨by (with_reducible repeat (first | apply Kd.R_alloc | apply Kd.R_drewN | apply Kd.R_drew)); exact Kd.R_mono HO_431003.out (fun _ hk => trivial)⟩,⟨kA BK392.out⟩,⟨kA BK430.out⟩,⟨bA⟩⟩
        case rest =>
         clear HC56
         try clear c1
         try clear p2
         try clear c3
         try clear c4
         try clear c4b0
         try clear c5
         try clear c6
         try clear c7
         try clear c8
         try clear c9
         try clear c9b0
         try clear c10
         try clear c11
         try clear c12
         try clear c13
         try clear c33
         try clear c42
         try clear c47
         try clear c50
         try clear c53
         try clear c64
         try clear c68
         try clear c68b0
         try clear c70
         try clear hcz11_0 hcz11_1 hcz11_2 hcz11_3 hcz11_4 hcz11_5 hcz11_6 hcz11_7 hcz11_8 hcz11_9
         try clear hcz21_0 hcz21_1 hcz21_2 hcz21_3 hcz21_4 hcz21_5 hcz21_6 hcz21_7 hcz21_8 hcz21_9
         try clear hcz23_0 hcz23_1 hcz23_2 hcz23_3 hcz23_4 hcz23_5 hcz23_6 hcz23_7 hcz23_8 hcz23_9
         try clear hcz30_0 hcz30_1 hcz30_2 hcz30_3 hcz30_4 hcz30_5 hcz30_6 hcz30_7 hcz30_8 hcz30_9
         try clear hcz34_0 hcz34_1 hcz34_2 hcz34_3 hcz34_4 hcz34_5 hcz34_6 hcz34_7 hcz34_8 hcz34_9
         try clear hcz38_0 hcz38_1 hcz38_2 hcz38_3 hcz38_4 hcz38_5 hcz38_6 hcz38_7 hcz38_8 hcz38_9
         try clear hcz65_0 hcz65_1 hcz65_2 hcz65_3 hcz65_4 hcz65_5 hcz65_6 hcz65_7 hcz65_8 hcz65_9
         try clear hcz6_0 hcz6_1 hcz6_2 hcz6_3 hcz6_4 hcz6_5 hcz6_6 hcz6_7 hcz6_8 hcz6_9
         try clear hfz11_0 hfz11_1 hfz11_2 hfz11_3 hfz11_4 hfz11_5 hfz11_6 hfz11_7 hfz11_8 hfz11_9
         try clear hfz21_0 hfz21_1 hfz21_2 hfz21_3 hfz21_4 hfz21_5 hfz21_6 hfz21_7 hfz21_8 hfz21_9
         try clear hfz23_0 hfz23_1 hfz23_2 hfz23_3 hfz23_4 hfz23_5 hfz23_6 hfz23_7 hfz23_8 hfz23_9
         try clear hfz30_0 hfz30_1 hfz30_2 hfz30_3 hfz30_4 hfz30_5 hfz30_6 hfz30_7 hfz30_8 hfz30_9
         try clear hfz34_0 hfz34_1 hfz34_2 hfz34_3 hfz34_4 hfz34_5 hfz34_6 hfz34_7 hfz34_8 hfz34_9
         try clear hfz38_0 hfz38_1 hfz38_2 hfz38_3 hfz38_4 hfz38_5 hfz38_6 hfz38_7 hfz38_8 hfz38_9
         try clear hfz65_0 hfz65_1 hfz65_2 hfz65_3 hfz65_4 hfz65_5 hfz65_6 hfz65_7 hfz65_8 hfz65_9
         try clear hfz6_0 hfz6_1 hfz6_2 hfz6_3 hfz6_4 hfz6_5 hfz6_6 hfz6_7 hfz6_8 hfz6_9
         try clear p2
         obtain ⟨kq,x82_55,rfl,HA,HJ55,HO_6,HO_10,HO_431002,HO_431003,BK392,BK430,HB⟩ := hcut
         have hl431002_55 := (Kd.R_reads' HO_431002.out).1
         rw [hl431002_55] at HO_431002
         (try simp only [hl431002_55])
         (try simp only [hl431002_55] at BK392)
         (try simp only [hl431002_55] at BK430)
         (try simp only [hl431002_55] at HO_6)
         (try simp only [hl431002_55] at HO_10)
         (try simp only [hl431002_55] at HO_431003)
         have hl431003_55 := (Kd.R_reads' HO_431003.out).1
         rw [hl431003_55] at HO_431003
         (try simp only [hl431003_55])
         (try simp only [hl431003_55] at BK392)
         (try simp only [hl431003_55] at BK430)
         (try simp only [hl431003_55] at HO_6)
         (try simp only [hl431003_55] at HO_10)
         (try simp only [hl431003_55] at HO_431002)
         cases kq with
         | zero => exact absurd HA.out (by simp [laws_FnExactOrphansOf.j1])
         | succ kj55 =>
          have H := HA.out
          clear HA
          simp only [laws_FnExactOrphansOf.j1] at H
          by_cases c75 : x82_55 = true
          ·subst c75
           rw [if_pos rfl] at H
           exact absurd H (by simp)
          ·replace c75 := Bool.eq_false_iff.mpr c75
           subst c75
           rw [if_neg (show ¬ (false = true) by decide)] at H
           replace H := Option.bind_eq_some_iff.mp H
           obtain ⟨⟨t464,t465⟩,A760,H⟩ := H
           try dsimp only at H
           have A76 := Aside0.mk A760
           clear A760
           replace H := Option.bind_eq_some_iff.mp H
           obtain ⟨t466,A770,H⟩ := H
           try dsimp only at H
           have A77 := Aside0.mk A770
           clear A770
           by_cases c78 : t466 < 0
           ·rw [if_pos c78] at H
            exact absurd H (by simp)
           ·rw [if_neg c78] at H
            have c78b0 : decide (t466 < 0) = false := decide_eq_false c78
            clear c78
            by_cases c79 : t466 = t464
            ·rw [if_pos c79] at H
             have c79b0 : (t466 == t464) = true := beq_iff_eq.mpr c79
             have c79b1 : (t466 != t464) = false := bne_eq_false_iff_eq.mpr c79
             clear c79
             replace H := Option.bind_eq_some_iff.mp H
             obtain ⟨⟨t467,t468,t469,t472,t475,t476,t477,t478,t479,t480⟩,A800,H⟩ := H
             try dsimp only at H
             have A80 := Aside0.mk A800
             clear A800
             replace H := Option.bind_eq_some_iff.mp H
             obtain ⟨t481,A810,H⟩ := H
             try dsimp only at H
             have A81 := Aside0.mk A810
             clear A810
             replace H := Option.bind_eq_some_iff.mp H
             obtain ⟨⟨t484,t487⟩,A820,H⟩ := H
             try dsimp only at H
             have A82 := Aside0.mk A820
             clear A820
             have HC83 := Aside0.mk H
             clear H
             obtain ⟨Ao84,co84,eo84⟩ := Kd.R_slice HO_10.out
             subst eo84
             go_upto_region 32 with (first | ((with_reducible refine gate_callee (f:=13) rfl ?_); refine goesL_ (some 85) rfl rfl Tryz.func13 (by kernel_rfl) rfl #[.slice Ao84 t434.length co84,.int .i64 1] rfl mA ?_; (with_reducible refine (laws_markStringS.calls kj55 (fun k_ => some k_ = (.slice Ao84 t434.length co84 : Value).ownBlock) (.slice Ao84 t434.length co84) t434 1 t464 t465 w _ ?side1 ?side2 A76.out).mono ?_); (case side1 => exact bA); (case side2 => exact Kd.R_tight rfl HO_10.out); rintro e w85 ⟨rfl,hy0,hb,hkp⟩; refine ⟨_,rfl,?_⟩; have n0_ := Aside0.mk (Kd.R_mono (ok' := fun k_ => some k_ ≠ (.slice Ao84 t434.length co84 : Value).ownBlock) (Kd.R_keptB (HO_6.out) hkp (fun k_ hk_ hs_ => (hk_) hs_)) (fun k_ hk_ => hk_.1)); have n1_ := Aside0.mk (Kd.R_reok rfl hy0 (fun k_ e_ => HO_10.out.1 k_ e_)); have n2_ := Aside0.mk (Kd.R_mono (ok' := fun k_ => True) (Kd.R_keptB ((Kd.R_apart' HO_431002.out (Kd.R_typed HO_10.out) (by decide))) hkp (fun k_ hk_ hs_ => (hk_.2) hs_)) (fun k_ hk_ => trivial)); have n3_ := Aside0.mk (Kd.R_mono (ok' := fun k_ => True) (Kd.R_keptB ((Kd.R_apart' HO_431003.out (Kd.R_typed HO_10.out) (by decide))) hkp (fun k_ hk_ hs_ => (hk_.2) hs_)) (fun k_ hk_ => trivial)); have n4_ := Aside0.mk (blk_kept (kA BK392.out) hkp (fun hs_ => (fun e_ => (Kd.R_ne HO_10.out BK392.out (by decide)) e_) hs_)); have n5_ := Aside0.mk (blk_kept (kA BK430.out) hkp (fun hs_ => (fun e_ => (Kd.R_ne HO_10.out BK430.out (by decide)) e_) hs_)); have n6_ := Aside0.mk (hb); clear HO_6 HO_10 HO_431002 HO_431003 BK392 BK430 HB; have HO_6 := n0_; have HO_10 := n1_; have HO_431002 := n2_; have HO_431003 := n3_; have BK392 := n4_; have BK430 := n5_; have HB := n6_; clear n0_ n1_ n2_ n3_ n4_ n5_ n6_; (try clear hb); (try clear hkp); (try clear hy0)) | ((with_reducible refine gate_callee (f:=14) rfl ?_); refine goesL_ (some 88) rfl rfl Tryz.func14 (by kernel_rfl) rfl #[.slice Ao84 t465.length co84,.int .i64 1] rfl (by (try simp only [List.map_toArray,List.map_cons,List.map_nil]); first | done | (rw [show t465.length = t434.length from (Kd.R_reads' HO_10.out).1.symm] <;> rfl) | rfl | (simp only [List.length_drop,List.length_take]; rfl)) ?_; (with_reducible refine (laws_heldStringS.calls kj55 _ _ t465 1 t466 _ ?side1 ?side2 A77.out).mono ?_); (case side1 => repeat (first | exact (Kd.R_reads' HO_10.out).2.2 | (with_reducible refine Kd.C_alloc ?_ _) | (with_reducible refine Kd.C_drewN ?_ _) | (with_reducible refine Kd.C_drew ?_))); (case side2 => rw [show t465.length = t434.length from (Kd.R_reads' HO_10.out).1.symm]; exact (Kd.R_reads' HO_10.out).2.1); rintro e w86 ⟨rfl,hb⟩; refine ⟨_,rfl,?_⟩; have n0_ := Aside0.mk (Kd.R_below (rA HO_6.out) hb); have n1_ := Aside0.mk (Kd.R_below (rA HO_10.out) hb); have n2_ := Aside0.mk (Kd.R_below (rA HO_431002.out) hb); have n3_ := Aside0.mk (Kd.R_below (rA HO_431003.out) hb); have n4_ := Aside0.mk (bb BK392.out hb); have n5_ := Aside0.mk (bb BK430.out hb); have n6_ := Aside0.mk (below_step bA hb); clear HO_6 HO_10 HO_431002 HO_431003 BK392 BK430 HB; have HO_6 := n0_; have HO_10 := n1_; have HO_431002 := n2_; have HO_431003 := n3_; have BK392 := n4_; have BK430 := n5_; have HB := n6_; clear n0_ n1_ n2_ n3_ n4_ n5_ n6_; (try clear hb); (try clear hb2); (try clear hk); (try clear hi); have hnb87 := NB392_430.out; have hnc87 := NB430_392.out; obtain ⟨hcz88_0,hcz88_1,hcz88_2,hcz88_3,hcz88_4,hcz88_5,hcz88_6,hcz88_7,hcz88_8,hcz88_9⟩ := cl10 BK392.out; obtain ⟨hfz88_0,hfz88_1,hfz88_2,hfz88_3,hfz88_4,hfz88_5,hfz88_6,hfz88_7,hfz88_8,hfz88_9⟩ := fz10 BK392.out) | ((with_reducible refine gate_callee (f:=7) rfl ?_); refine goesL_ (some 96) rfl rfl Tryz.func7 (by kernel_rfl) rfl #[.agg #[.int .i64 a0_0,.int .i64 a0_1,.slice A0_2 l0_2.length c0_2,.slice A0_3 l0_3.length c0_3,.int .i64 a0_4,.int .i64 a0_5,.int .i64 a0_6,.int .i64 a0_7,.int .i64 a0_8,.int .i64 a0_9]] rfl mA ?_; (with_reducible refine (laws_toState.calls kj55 a0_0 a0_1 _ _ l0_2 _ _ l0_3 a0_4 a0_5 a0_6 a0_7 a0_8 a0_9 t467 t468 t469 t472 t475 t476 t477 t478 t479 t480 _ ?side1 ?side2 ?side3 ?side4 A80.out).mono ?_); (case side1 => exact sC HR0_2.out); (case side2 => exact HC0_2.out); (case side3 => exact sC HR0_3.out); (case side4 => exact HC0_3.out); rintro e w89 ⟨v470,v473,rfl,ho0,ho1,hb⟩; refine ⟨_,rfl,?_⟩; have n0_ := Aside0.mk (Kd.R_below (rA HO_6.out) hb); have n1_ := Aside0.mk (Kd.R_below (rA HO_10.out) hb); have n2_ := Aside0.mk (Kd.R_elder' (rA HO_431002.out) (Kd.R_base ho0) hb); have n3_ := Aside0.mk (Kd.R_elder' (rA HO_431003.out) (Kd.R_base ho1) hb); have n4_ := Aside0.mk (Kd.R_lower (Kd.R_new' ho0 (Kd.R_lt (rA HO_431002.out))) (below_size bA)); have n5_ := Aside0.mk (Kd.R_lower (Kd.R_new' ho1 (Kd.R_lt (rA HO_431003.out))) (below_size bA)); have n6_ := Aside0.mk (bb BK392.out hb); have n7_ := Aside0.mk (bb BK430.out hb); have n8_ := Aside0.mk (below_step bA hb); clear HO_6 HO_10 HO_431002 HO_431003 BK392 BK430 HB; have HO_6 := n0_; have HO_10 := n1_; have HO_431002 := n2_; have HO_431003 := n3_; have HO471 := n4_; have HO474 := n5_; have BK392 := n6_; have BK430 := n7_; have HB := n8_; clear n0_ n1_ n2_ n3_ n4_ n5_ n6_ n7_ n8_; (try clear hb); (try clear hb2); (try clear hk); (try clear hi); (try clear ho0); (try clear ho1)) | ((with_reducible refine gate_callee (f:=8) rfl ?_); refine goesL_ (some 98) rfl rfl Tryz.func8 (by kernel_rfl) rfl #[.slice A1 l1.length c1] rfl mA ?_; (with_reducible refine (laws_toStringS.calls kj55 _ _ l1 t481 _ ?side1 ?side2 A81.out).mono ?_); (case side1 => exact sC HR1.out); (case side2 => exact HC1.out); rintro e w90 ⟨v482,rfl,ho0,hb⟩; refine ⟨_,rfl,?_⟩; have n0_ := Aside0.mk (Kd.R_elder' (rA HO_6.out) (Kd.R_base ho0) hb); have n1_ := Aside0.mk (Kd.R_elder' (rA HO_10.out) (Kd.R_base ho0) hb); have n2_ := Aside0.mk (Kd.R_below (rA HO_431002.out) hb); have n3_ := Aside0.mk (Kd.R_below (rA HO_431003.out) hb); have n4_ := Aside0.mk (Kd.R_below (rA HO471.out) hb); have n5_ := Aside0.mk (Kd.R_below (rA HO474.out) hb); have n6_ := Aside0.mk (Kd.R_lower (Kd.R_new' (Kd.R_new' ho0 (Kd.R_lt (rA HO_6.out))) (Kd.R_lt (rA HO_10.out))) (below_size bA)); have n7_ := Aside0.mk (bb BK392.out hb); have n8_ := Aside0.mk (bb BK430.out hb); have n9_ := Aside0.mk (below_step bA hb); clear HO_6 HO_10 HO_431002 HO_431003 HO471 HO474 BK392 BK430 HB; have HO_6 := n0_; have HO_10 := n1_; have HO_431002 := n2_; have HO_431003 := n3_; have HO471 := n4_; have HO474 := n5_; have HO483 := n6_; have BK392 := n7_; have BK430 := n8_; have HB := n9_; clear n0_ n1_ n2_ n3_ n4_ n5_ n6_ n7_ n8_ n9_; (try clear hb); (try clear hb2); (try clear hk); (try clear hi); (try clear ho0); obtain ⟨Ao91,co91,eo91⟩ := Kd.R_slice HO471.out; subst eo91; obtain ⟨Ao92,co92,eo92⟩ := Kd.R_slice HO474.out; subst eo92; obtain ⟨Ao93,co93,eo93⟩ := Kd.R_slice HO483.out; subst eo93) | ((with_reducible refine gate_callee (f:=9) rfl ?_); refine goesL_ (some 99) rfl rfl Tryz.func9 (by kernel_rfl) rfl #[.agg #[.int .i64 t467,.int .i64 t468,.slice Ao91 t469.length co91,.slice Ao92 t472.length co92,.int .i64 t475,.int .i64 t476,.int .i64 t477,.int .i64 t478,.int .i64 t479,.int .i64 t480],.slice Ao93 t481.length co93] rfl mA ?_; (with_reducible refine (impl_OrphansOf.calls kj55 t467 t468 _ _ t469 _ _ t472 t475 t476 t477 t478 t479 t480 _ _ t481 t484 t487 _ ?side1 ?side2 ?side3 ?side4 ?side5 ?side6 ?side7 A82.out).mono ?_); (case side1 => exact HV.out.below bA); (case side2 => repeat (first | exact (Kd.R_reads' HO471.out).2.2 | (with_reducible refine Kd.C_alloc ?_ _) | (with_reducible refine Kd.C_drewN ?_ _) | (with_reducible refine Kd.C_drew ?_))); (case side3 => exact (Kd.R_reads' HO471.out).2.1); (case side4 => repeat (first | exact (Kd.R_reads' HO474.out).2.2 | (with_reducible refine Kd.C_alloc ?_ _) | (with_reducible refine Kd.C_drewN ?_ _) | (with_reducible refine Kd.C_drew ?_))); (case side5 => exact (Kd.R_reads' HO474.out).2.1); (case side6 => repeat (first | exact (Kd.R_reads' HO483.out).2.2 | (with_reducible refine Kd.C_alloc ?_ _) | (with_reducible refine Kd.C_drewN ?_ _) | (with_reducible refine Kd.C_drew ?_))); (case side7 => exact (Kd.R_reads' HO483.out).2.1); rintro e w94 ⟨v485,rfl,ho0,hb⟩; refine ⟨_,rfl,?_⟩; have n0_ := Aside0.mk (Kd.R_elder' (rA HO_6.out) (Kd.R_base ho0) hb); have n1_ := Aside0.mk (Kd.R_elder' (rA HO_10.out) (Kd.R_base ho0) hb); have n2_ := Aside0.mk (Kd.R_below (rA HO_431002.out) hb); have n3_ := Aside0.mk (Kd.R_below (rA HO_431003.out) hb); have n4_ := Aside0.mk (Kd.R_below (rA HO471.out) hb); have n5_ := Aside0.mk (Kd.R_below (rA HO474.out) hb); have n6_ := Aside0.mk (Kd.R_elder' (rA HO483.out) (Kd.R_base ho0) hb); have n7_ := Aside0.mk (Kd.R_lower (Kd.R_new' (Kd.R_new' (Kd.R_new' ho0 (Kd.R_lt (rA HO_6.out))) (Kd.R_lt (rA HO_10.out))) (Kd.R_lt (rA HO483.out))) (below_size bA)); have n8_ := Aside0.mk (bb BK392.out hb); have n9_ := Aside0.mk (bb BK430.out hb); have n10_ := Aside0.mk (below_step bA hb); clear HO_6 HO_10 HO_431002 HO_431003 HO471 HO474 HO483 BK392 BK430 HB; have HO_6 := n0_; have HO_10 := n1_; have HO_431002 := n2_; have HO_431003 := n3_; have HO471 := n4_; have HO474 := n5_; have HO483 := n6_; have HO486 := n7_; have BK392 := n8_; have BK430 := n9_; have HB := n10_; clear n0_ n1_ n2_ n3_ n4_ n5_ n6_ n7_ n8_ n9_ n10_; (try clear hb); (try clear hb2); (try clear hk); (try clear hi); (try clear ho0)))
             (try simp only [Act.put,setIfInBounds_toArray,set_cons_zero,set_cons_succ])
             go_cut [110] (fun v110 wc => ∃ (kq : Nat) (x110_82 : Bool),v110 = .bool x110_82 ∧ Aside0 (laws_FnExactOrphansOf.j2 kq t465 t464 x110_82 = some r) ∧ Aside0 (kq ≤ kj55) ∧ Aside0 (Kd.R Kd.string 9 wc w.heap.size (fun _ => True) (.slice Ao84 t434.length co84) t465) ∧ Aside0 (Kd.R k64 64 wc w.heap.size (fun _ => True) (.slice Ao35 t459.length co35) t459) ∧ Aside0 (Kd.R k71 71 wc w.heap.size (fun _ => True) (.slice Ao36 t460.length co36) t460) ∧ Aside0 (wc.heap[gb392]? = some (.cells #[.int .i64 a0_0,.int .i64 a0_1,(.slice A0_2 l0_2.length c0_2),(.slice A0_3 l0_3.length c0_3),.int .i64 a0_4,.int .i64 a0_5,.int .i64 a0_6,.int .i64 a0_7,.int .i64 a0_8,.int .i64 a0_9] 26 (0,0))) ∧ Aside0 (wc.heap[gb430]? = some (.cells #[.int .i64 t416,.int .i64 t417,(.slice Ao35 t459.length co35),(.slice Ao36 t460.length co36),.int .i64 t424,.int .i64 t425,.int .i64 t426,.int .i64 t427,.int .i64 t428,.int .i64 t429] 35 (0,0))) ∧ Aside0 (Below w.heap.size w wc))
             case first =>
              have H := HC83.out
              clear HC83
              replace H := Option.bind_eq_some_iff.mp H
              obtain ⟨t488,A950,H⟩ := H
              try dsimp only at H
              have A95 := Aside0.mk A950
              clear A950
              by_cases c96 : t488 = true
              ·subst c96
               rw [if_pos rfl] at H
               have H' := Aside0.mk H
               clear H
               obtain ⟨Ao97,co97,eo97⟩ := Kd.R_slice HO486.out
               subst eo97
               obtain ⟨Ao98,co98,eo98⟩ := Kd.R_slice HO_6.out
               subst eo98
               go_wp2_with (first | ((with_reducible refine gate_callee (f:=10) rfl ?_); refine goesL_ (some 104) rfl rfl Tryz.func10 (by kernel_rfl) rfl #[.slice Ao97 t484.length co97,.slice Ao98 t412.length co98] rfl mA ?_; (with_reducible refine (laws_eqStringS.calls kj55 _ _ t484 _ _ t412 true _ ?side1 ?side2 ?side3 ?side4 A95.out).mono ?_); (case side1 => repeat (first | exact (Kd.R_reads' HO486.out).2.2 | (with_reducible refine Kd.C_alloc ?_ _) | (with_reducible refine Kd.C_drewN ?_ _) | (with_reducible refine Kd.C_drew ?_))); (case side2 => exact (Kd.R_reads' HO486.out).2.1); (case side3 => repeat (first | exact (Kd.R_reads' HO_6.out).2.2 | (with_reducible refine Kd.C_alloc ?_ _) | (with_reducible refine Kd.C_drewN ?_ _) | (with_reducible refine Kd.C_drew ?_))); (case side4 => exact (Kd.R_reads' HO_6.out).2.1); rintro e w' ⟨rfl,⟨nd,rfl⟩⟩; refine ⟨_,rfl,?_⟩))
               go_meet
               case rel => exact ⟨_,((t487 != t415)),(by first | rfl | (simp; done) | (simp [*]; done)),H',⟨by have := HJ18.out; have := HJ55.out; first | omega | exact Nat.le_refl _⟩,⟨by (try simp only [hl431002_55]); (try simp only [hl431003_55]); (with_reducible repeat (first | apply Kd.R_alloc | apply Kd.R_drewN | apply Kd.R_drew)); exact Kd.R_mono HO_10.out (fun _ hk => trivial)⟩,⟨by (try simp only [hl431002_55]); (try simp only [hl431003_55]); (with_reducible repeat (first | apply Kd.R_alloc | apply Kd.R_drewN | apply Kd.R_drew)); exact Kd.R_mono HO_431002.out (fun _ hk => trivial)⟩,⟨by (try simp only [hl431002_55]); (try simp only [hl431003_55]); (with_reducible repeat (first | apply Kd.R_alloc | apply Kd.R_drewN | apply Kd.R_drew)); exact Kd.R_mono HO_431003.out (fun _ hk => trivial)⟩,⟨by (try simp only [hl431002_55]); (try simp only [hl431003_55]); (with_reducible repeat (first | refine blk_drewN ?_ _ | refine blk_drew ?_ | refine blk_alloc ?_ _)); exact BK392.out⟩,⟨by (try simp only [hl431002_55]); (try simp only [hl431003_55]); (with_reducible repeat (first | refine blk_drewN ?_ _ | refine blk_drew ?_ | refine blk_alloc ?_ _)); exact BK430.out⟩,⟨bA⟩⟩
              ·replace c96 := Bool.eq_false_iff.mpr c96
               subst c96
               rw [if_neg (show ¬ (false = true) by decide)] at H
               have H' := Aside0.mk H
               clear H
               obtain ⟨Ao99,co99,eo99⟩ := Kd.R_slice HO486.out
               subst eo99
               obtain ⟨Ao100,co100,eo100⟩ := Kd.R_slice HO_6.out
               subst eo100
               go_wp2_with (first | ((with_reducible refine gate_callee (f:=10) rfl ?_); refine goesL_ (some 104) rfl rfl Tryz.func10 (by kernel_rfl) rfl #[.slice Ao99 t484.length co99,.slice Ao100 t412.length co100] rfl mA ?_; (with_reducible refine (laws_eqStringS.calls kj55 _ _ t484 _ _ t412 false _ ?side1 ?side2 ?side3 ?side4 A95.out).mono ?_); (case side1 => repeat (first | exact (Kd.R_reads' HO486.out).2.2 | (with_reducible refine Kd.C_alloc ?_ _) | (with_reducible refine Kd.C_drewN ?_ _) | (with_reducible refine Kd.C_drew ?_))); (case side2 => exact (Kd.R_reads' HO486.out).2.1); (case side3 => repeat (first | exact (Kd.R_reads' HO_6.out).2.2 | (with_reducible refine Kd.C_alloc ?_ _) | (with_reducible refine Kd.C_drewN ?_ _) | (with_reducible refine Kd.C_drew ?_))); (case side4 => exact (Kd.R_reads' HO_6.out).2.1); rintro e w' ⟨rfl,⟨nd,rfl⟩⟩; refine ⟨_,rfl,?_⟩))
               go_meet
               case rel => exact ⟨_,(true),(by first | rfl | (simp; done) | (simp [*]; done)),H',⟨by have := HJ18.out; have := HJ55.out; first | omega | exact Nat.le_refl _⟩,⟨by (try simp only [hl431002_55]); (try simp only [hl431003_55]); (with_reducible repeat (first | apply Kd.R_alloc | apply Kd.R_drewN | apply Kd.R_drew)); exact Kd.R_mono HO_10.out (fun _ hk => trivial)⟩,⟨by (try simp only [hl431002_55]); (try simp only [hl431003_55]); (with_reducible repeat (first | apply Kd.R_alloc | apply Kd.R_drewN | apply Kd.R_drew)); exact Kd.R_mono HO_431002.out (fun _ hk => trivial)⟩,⟨by (try simp only [hl431002_55]); (try simp only [hl431003_55]); (with_reducible repeat (first | apply Kd.R_alloc | apply Kd.R_drewN | apply Kd.R_drew)); exact Kd.R_mono HO_431003.out (fun _ hk => trivial)⟩,⟨by (try simp only [hl431002_55]); (try simp only [hl431003_55]); (with_reducible repeat (first | refine blk_drewN ?_ _ | refine blk_drew ?_ | refine blk_alloc ?_ _)); exact BK392.out⟩,⟨by (try simp only [hl431002_55]); (try simp only [hl431003_55]); (with_reducible repeat (first | refine blk_drewN ?_ _ | refine blk_drew ?_ | refine blk_alloc ?_ _)); exact BK430.out⟩,⟨bA⟩⟩
             case rest =>
              clear HC83
              try clear c1
              try clear p2
              try clear c3
              try clear c4
              try clear c4b0
              try clear c5
              try clear c6
              try clear c7
              try clear c8
              try clear c9
              try clear c9b0
              try clear c10
              try clear c11
              try clear c12
              try clear c13
              try clear c14
              try clear c33
              try clear c42
              try clear c47
              try clear c50
              try clear c53
              try clear c64
              try clear c68
              try clear c68b0
              try clear c70
              try clear c75
              try clear c78
              try clear c78b0
              try clear c79
              try clear c79b0
              try clear c79b1
              try clear c87
              try clear c96
              try clear hcz11_0 hcz11_1 hcz11_2 hcz11_3 hcz11_4 hcz11_5 hcz11_6 hcz11_7 hcz11_8 hcz11_9
              try clear hcz21_0 hcz21_1 hcz21_2 hcz21_3 hcz21_4 hcz21_5 hcz21_6 hcz21_7 hcz21_8 hcz21_9
              try clear hcz23_0 hcz23_1 hcz23_2 hcz23_3 hcz23_4 hcz23_5 hcz23_6 hcz23_7 hcz23_8 hcz23_9
              try clear hcz30_0 hcz30_1 hcz30_2 hcz30_3 hcz30_4 hcz30_5 hcz30_6 hcz30_7 hcz30_8 hcz30_9
              try clear hcz34_0 hcz34_1 hcz34_2 hcz34_3 hcz34_4 hcz34_5 hcz34_6 hcz34_7 hcz34_8 hcz34_9
              try clear hcz38_0 hcz38_1 hcz38_2 hcz38_3 hcz38_4 hcz38_5 hcz38_6 hcz38_7 hcz38_8 hcz38_9
              try clear hcz65_0 hcz65_1 hcz65_2 hcz65_3 hcz65_4 hcz65_5 hcz65_6 hcz65_7 hcz65_8 hcz65_9
              try clear hcz6_0 hcz6_1 hcz6_2 hcz6_3 hcz6_4 hcz6_5 hcz6_6 hcz6_7 hcz6_8 hcz6_9
              try clear hcz88_0 hcz88_1 hcz88_2 hcz88_3 hcz88_4 hcz88_5 hcz88_6 hcz88_7 hcz88_8 hcz88_9
              try clear hfz11_0 hfz11_1 hfz11_2 hfz11_3 hfz11_4 hfz11_5 hfz11_6 hfz11_7 hfz11_8 hfz11_9
              try clear hfz21_0 hfz21_1 hfz21_2 hfz21_3 hfz21_4 hfz21_5 hfz21_6 hfz21_7 hfz21_8 hfz21_9
              try clear hfz23_0 hfz23_1 hfz23_2 hfz23_3 hfz23_4 hfz23_5 hfz23_6 hfz23_7 hfz23_8 hfz23_9
              try clear hfz30_0 hfz30_1 hfz30_2 hfz30_3 hfz30_4 hfz30_5 hfz30_6 hfz30_7 hfz30_8 hfz30_9
              try clear hfz34_0 hfz34_1 hfz34_2 hfz34_3 hfz34_4 hfz34_5 hfz34_6 hfz34_7 hfz34_8 hfz34_9
              try clear hfz38_0 hfz38_1 hfz38_2 hfz38_3 hfz38_4 hfz38_5 hfz38_6 hfz38_7 hfz38_8 hfz38_9
              try clear hfz65_0 hfz65_1 hfz65_2 hfz65_3 hfz65_4 hfz65_5 hfz65_6 hfz65_7 hfz65_8 hfz65_9
              try clear hfz6_0 hfz6_1 hfz6_2 hfz6_3 hfz6_4 hfz6_5 hfz6_6 hfz6_7 hfz6_8 hfz6_9
              try clear hfz88_0 hfz88_1 hfz88_2 hfz88_3 hfz88_4 hfz88_5 hfz88_6 hfz88_7 hfz88_8 hfz88_9
              try clear p2
              obtain ⟨kq,x110_82,rfl,HA,HJ82,HO_10,HO_431002,HO_431003,BK392,BK430,HB⟩ := hcut
              have hl10_82 := (Kd.R_reads' HO_10.out).1
              rw [hl10_82] at HO_10
              (try simp only [hl10_82])
              (try simp only [hl10_82] at BK392)
              (try simp only [hl10_82] at BK430)
              (try simp only [hl10_82] at HO_431002)
              (try simp only [hl10_82] at HO_431003)
              cases kq with
              | zero => exact absurd HA.out (by simp [laws_FnExactOrphansOf.j2])
              | succ kj82 =>
               have H := HA.out
               clear HA
               simp only [laws_FnExactOrphansOf.j2] at H
               by_cases c101 : x110_82 = true
               ·subst c101
                rw [if_pos rfl] at H
                exact absurd H (by simp)
               ·replace c101 := Bool.eq_false_iff.mpr c101
                subst c101
                rw [if_neg (show ¬ (false = true) by decide)] at H
                replace H := Option.bind_eq_some_iff.mp H
                obtain ⟨t489,A1020,H⟩ := H
                try dsimp only at H
                have A102 := Aside0.mk A1020
                clear A1020
                by_cases c103 : t489 < 0
                ·rw [if_pos c103] at H
                 exact absurd H (by simp)
                ·rw [if_neg c103] at H
                 have c103b0 : decide (t489 < 0) = false := decide_eq_false c103
                 clear c103
                 by_cases c104 : t489 = t464
                 ·rw [if_pos c104] at H
                  have c104b0 : (t489 == t464) = true := beq_iff_eq.mpr c104
                  have c104b1 : (t489 != t464) = false := bne_eq_false_iff_eq.mpr c104
                  clear c104
                  obtain rfl := Option.some.inj H
                  go_wp2_with (first | ((with_reducible refine gate_callee (f:=14) rfl ?_); refine goesL_ (some 113) rfl rfl Tryz.func14 (by kernel_rfl) rfl #[.slice Ao84 t465.length co84,.int .i64 1] rfl mA ?_; (with_reducible refine (laws_heldStringS.calls kj82 _ _ t465 1 t489 _ ?side1 ?side2 A102.out).mono ?_); (case side1 => repeat (first | exact (Kd.R_reads' HO_10.out).2.2 | (with_reducible refine Kd.C_alloc ?_ _) | (with_reducible refine Kd.C_drewN ?_ _) | (with_reducible refine Kd.C_drew ?_))); (case side2 => exact (Kd.R_reads' HO_10.out).2.1); rintro e w105 ⟨rfl,hb⟩; refine ⟨_,rfl,?_⟩; have n0_ := Aside0.mk (Kd.R_below (rA HO_10.out) hb); have n1_ := Aside0.mk (Kd.R_below (rA HO_431002.out) hb); have n2_ := Aside0.mk (Kd.R_below (rA HO_431003.out) hb); have n3_ := Aside0.mk (bb BK392.out hb); have n4_ := Aside0.mk (bb BK430.out hb); have n5_ := Aside0.mk (below_step bA hb); clear HO_10 HO_431002 HO_431003 BK392 BK430 HB; have HO_10 := n0_; have HO_431002 := n1_; have HO_431003 := n2_; have BK392 := n3_; have BK430 := n4_; have HB := n5_; clear n0_ n1_ n2_ n3_ n4_ n5_; (try clear hb); (try clear hb2); (try clear hk); (try clear hi)))
                  go_ret
                  exact ⟨by first | rfl | (simp [errW_none,errW_some] <;> rfl) | (simp [*,errW_none,errW_some] <;> rfl),bA⟩
                 ·rw [if_neg c104] at H
                  exact absurd H (by simp)
            ·rw [if_neg c79] at H
             exact absurd H (by simp)
       ·replace c53 := Bool.eq_false_iff.mpr c53
        subst c53
        rw [if_neg (show ¬ (false = true) by decide)] at H
        exact absurd H (by simp)
      ·replace c50 := Bool.eq_false_iff.mpr c50
       subst c50
       rw [if_neg (show ¬ (false = true) by decide)] at H
       exact absurd H (by simp)

end Go.Proofs.YtfondhlknkhmmaaGreatDoor.XFnExactOrphansOf
