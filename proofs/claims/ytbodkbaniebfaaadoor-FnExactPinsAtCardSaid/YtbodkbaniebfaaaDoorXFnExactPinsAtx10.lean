-- Printed by this session's own program wip/tools/xprint.py, which widens the kit's print. Not trusted: Lean checks it.
import Derived.Test.YtbodkbaniebfaaaDoorXFnExactPinsAtx0
import Derived.Test.YtbodkbaniebfaaaDoorXFnExactPinsAtx1
import Derived.Test.YtbodkbaniebfaaaDoorXFnExactPinsAtx4
import Derived.Test.YtbodkbaniebfaaaDoorXFnExactPinsAtx5
import Derived.Test.YtbodkbaniebfaaaDoorXFnExactPinsAtx8
import Derived.Test.YtbodkbaniebfaaaDoorXFnExactPinsAtx9
namespace Go.Proofs.YtbodkbaniebfaaaDoor.XFnExactPinsAt
open List (setIfInBounds_toArray set_cons_zero set_cons_succ)
open Go.RowKit Go.Proofs.YtbodkbaniebfaaaDoorW.PrintWords Go.Proofs.YtbodkbaniebfaaaDoorW.PrintLast Go.Proofs.YtbodkbaniebfaaaDoorW.PrintMore
attribute [local go_sem] max2_int min2_int max_two min_two max_three min_three max_four min_four   -- for this text's walks alone
set_option linter.unusedVariables false
set_option linter.unusedSimpArgs false

/-! ### laws_FnExactPinsAt: function 3 -/
mutual
def laws_FnExactPinsAt.j0 : Nat → Int → List ByteArray → Int → List ByteArray → Int → Bool → List (S50) → Int → List (S51) → Int → Option (Bool)
 | 0,_,_,_,_,_,_,_,_,_,_ => none
 | k + 1,x1,x6,x7,x9,x10,x44,x237000,x237001,x251000,x251001 => if x44 = true then (none) else ((laws_toStore.f k x237000 x237001).bind fun bt256 => ((laws_eqStore.f k x251000 x251001 bt256.1 bt256.2).bind fun t260 => (if t260 = true then ((laws_markStore.f k x251000 x251001 1).bind fun bt261 => (if bt261.1 < 0 then (laws_FnExactPinsAt.j1 k x1 x6 x7 x9 true x237000 x237001) else ((laws_eqStringS.f k x9 x6).bind fun t263 => (if t263 = true then (laws_FnExactPinsAt.j1 k x1 x6 x7 x9 (x10 != x7) x237000 x237001) else (laws_FnExactPinsAt.j1 k x1 x6 x7 x9 true x237000 x237001))))) else (none))))
def laws_FnExactPinsAt.j1 : Nat → Int → List ByteArray → Int → List ByteArray → Bool → List (S50) → Int → Option (Bool)
 | 0,_,_,_,_,_,_,_ => none
 | k + 1,x1,x6,x7,x9,x65,x237000,x237001 => if x65 = true then (none) else ((laws_markStringS.f k x9 1).bind fun bt264 => ((laws_heldStringS.f k bt264.2 1).bind fun t266 => (if t266 < 0 then (none) else (if t266 = bt264.1 then ((laws_toStore.f k x237000 x237001).bind fun bt267 => ((impl_PinsAt.f k bt267.1 bt267.2 x1).bind fun bt271 => ((laws_eqStringS.f k bt271.1 x6).bind fun t275 => (if t275 = true then (laws_FnExactPinsAt.j2 k bt264.2 bt264.1 (bt271.2 != x7)) else (laws_FnExactPinsAt.j2 k bt264.2 bt264.1 true))))) else (none)))))
def laws_FnExactPinsAt.j2 : Nat → List ByteArray → Int → Bool → Option (Bool)
 | 0,_,_,_ => none
 | k + 1,x9,x12,x92 => if x92 = true then (none) else ((laws_heldStringS.f k x9 1).bind fun t276 => (if t276 < 0 then (none) else (if t276 = x12 then (some true) else (none))))
end
def laws_FnExactPinsAt.f (k : Nat) (l0_0 : List (S50)) (a0_1 : Int) (a1 : Int) : Option (Bool) := (laws_szStore.f k l0_0 a0_1 1048576).bind fun t237 => (if t237 < 0 then (some true) else ((laws_toStore.f k l0_0 a0_1).bind fun bt238 => ((spec_PinsAt.f k bt238.1 bt238.2 a1).bind fun bt242 => ((laws_toStore.f k l0_0 a0_1).bind fun bt246 => ((impl_PinsAt.f k bt246.1 bt246.2 a1).bind fun bt251 => ((laws_eqStringS.f k bt251.1 bt242.1).bind fun t255 => (if t255 = true then (laws_FnExactPinsAt.j0 k a1 bt242.1 bt242.2 bt251.1 bt251.2 (bt251.2 != bt242.2) l0_0 a0_1 bt246.1 bt246.2) else (laws_FnExactPinsAt.j0 k a1 bt242.1 bt242.2 bt251.1 bt251.2 true l0_0 a0_1 bt246.1 bt246.2))))))))
theorem laws_FnExactPinsAt.mono_l : ∀ k,(∀ y0 y1 y2 y3 y4 y5 y6 y7 y8 y9,LeO (laws_FnExactPinsAt.j0 k y0 y1 y2 y3 y4 y5 y6 y7 y8 y9) (laws_FnExactPinsAt.j0 (k + 1) y0 y1 y2 y3 y4 y5 y6 y7 y8 y9)) ∧ (∀ y0 y1 y2 y3 y4 y5 y6,LeO (laws_FnExactPinsAt.j1 k y0 y1 y2 y3 y4 y5 y6) (laws_FnExactPinsAt.j1 (k + 1) y0 y1 y2 y3 y4 y5 y6)) ∧ (∀ y0 y1 y2,LeO (laws_FnExactPinsAt.j2 k y0 y1 y2) (laws_FnExactPinsAt.j2 (k + 1) y0 y1 y2))
 | 0 => ⟨fun _ _ _ _ _ _ _ _ _ _ r h => by simp [laws_FnExactPinsAt.j0] at h,fun _ _ _ _ _ _ _ r h => by simp [laws_FnExactPinsAt.j1] at h,fun _ _ _ r h => by simp [laws_FnExactPinsAt.j2] at h⟩
 | k + 1 => by
  obtain ⟨ih0,ih1,ih2⟩ := laws_FnExactPinsAt.mono_l k
  refine ⟨?_,?_,?_⟩
  ·intro y0 y1 y2 y3 y4 y5 y6 y7 y8 y9
   unfold laws_FnExactPinsAt.j0
   repeat' first
   | (with_reducible exact ih0 _ _ _ _ _ _ _ _ _ _)
   | (with_reducible exact ih1 _ _ _ _ _ _ _)
   | (with_reducible exact ih2 _ _ _)
   | (with_reducible exact impl_PinsAt.mono _ _ _ _)
   | (with_reducible exact laws_eqStore.mono _ _ _ _ _)
   | (with_reducible exact laws_eqStringS.mono _ _ _)
   | (with_reducible exact laws_heldStringS.mono _ _ _)
   | (with_reducible exact laws_markStore.mono _ _ _ _)
   | (with_reducible exact laws_markStringS.mono _ _ _)
   | (with_reducible exact laws_szStore.mono _ _ _ _)
   | (with_reducible exact laws_toStore.mono _ _ _)
   | (with_reducible exact spec_PinsAt.mono _ _ _ _)
   | (with_reducible exact LeO.refl _)
   | (with_reducible exact LeO.none _)
   | (with_reducible refine LeO.ite ?_ ?_)
   | (with_reducible refine LeO.bind ?_ (fun _ => ?_))
   | exact ih0 _ _ _ _ _ _ _ _ _ _
   | exact ih1 _ _ _ _ _ _ _
   | exact ih2 _ _ _
   | exact impl_PinsAt.mono _ _ _ _
   | exact laws_eqStore.mono _ _ _ _ _
   | exact laws_eqStringS.mono _ _ _
   | exact laws_heldStringS.mono _ _ _
   | exact laws_markStore.mono _ _ _ _
   | exact laws_markStringS.mono _ _ _
   | exact laws_szStore.mono _ _ _ _
   | exact laws_toStore.mono _ _ _
   | exact spec_PinsAt.mono _ _ _ _
   | exact LeO.none _
   | refine LeO.ite ?_ ?_
   | refine LeO.bind ?_ (fun _ => ?_)
  ·intro y0 y1 y2 y3 y4 y5 y6
   unfold laws_FnExactPinsAt.j1
   repeat' first
   | (with_reducible exact ih0 _ _ _ _ _ _ _ _ _ _)
   | (with_reducible exact ih1 _ _ _ _ _ _ _)
   | (with_reducible exact ih2 _ _ _)
   | (with_reducible exact impl_PinsAt.mono _ _ _ _)
   | (with_reducible exact laws_eqStore.mono _ _ _ _ _)
   | (with_reducible exact laws_eqStringS.mono _ _ _)
   | (with_reducible exact laws_heldStringS.mono _ _ _)
   | (with_reducible exact laws_markStore.mono _ _ _ _)
   | (with_reducible exact laws_markStringS.mono _ _ _)
   | (with_reducible exact laws_szStore.mono _ _ _ _)
   | (with_reducible exact laws_toStore.mono _ _ _)
   | (with_reducible exact spec_PinsAt.mono _ _ _ _)
   | (with_reducible exact LeO.refl _)
   | (with_reducible exact LeO.none _)
   | (with_reducible refine LeO.ite ?_ ?_)
   | (with_reducible refine LeO.bind ?_ (fun _ => ?_))
   | exact ih0 _ _ _ _ _ _ _ _ _ _
   | exact ih1 _ _ _ _ _ _ _
   | exact ih2 _ _ _
   | exact impl_PinsAt.mono _ _ _ _
   | exact laws_eqStore.mono _ _ _ _ _
   | exact laws_eqStringS.mono _ _ _
   | exact laws_heldStringS.mono _ _ _
   | exact laws_markStore.mono _ _ _ _
   | exact laws_markStringS.mono _ _ _
   | exact laws_szStore.mono _ _ _ _
   | exact laws_toStore.mono _ _ _
   | exact spec_PinsAt.mono _ _ _ _
   | exact LeO.none _
   | refine LeO.ite ?_ ?_
   | refine LeO.bind ?_ (fun _ => ?_)
  ·intro y0 y1 y2
   unfold laws_FnExactPinsAt.j2
   repeat' first
   | (with_reducible exact ih0 _ _ _ _ _ _ _ _ _ _)
   | (with_reducible exact ih1 _ _ _ _ _ _ _)
   | (with_reducible exact ih2 _ _ _)
   | (with_reducible exact impl_PinsAt.mono _ _ _ _)
   | (with_reducible exact laws_eqStore.mono _ _ _ _ _)
   | (with_reducible exact laws_eqStringS.mono _ _ _)
   | (with_reducible exact laws_heldStringS.mono _ _ _)
   | (with_reducible exact laws_markStore.mono _ _ _ _)
   | (with_reducible exact laws_markStringS.mono _ _ _)
   | (with_reducible exact laws_szStore.mono _ _ _ _)
   | (with_reducible exact laws_toStore.mono _ _ _)
   | (with_reducible exact spec_PinsAt.mono _ _ _ _)
   | (with_reducible exact LeO.refl _)
   | (with_reducible exact LeO.none _)
   | (with_reducible refine LeO.ite ?_ ?_)
   | (with_reducible refine LeO.bind ?_ (fun _ => ?_))
   | exact ih0 _ _ _ _ _ _ _ _ _ _
   | exact ih1 _ _ _ _ _ _ _
   | exact ih2 _ _ _
   | exact impl_PinsAt.mono _ _ _ _
   | exact laws_eqStore.mono _ _ _ _ _
   | exact laws_eqStringS.mono _ _ _
   | exact laws_heldStringS.mono _ _ _
   | exact laws_markStore.mono _ _ _ _
   | exact laws_markStringS.mono _ _ _
   | exact laws_szStore.mono _ _ _ _
   | exact laws_toStore.mono _ _ _
   | exact spec_PinsAt.mono _ _ _ _
   | exact LeO.none _
   | refine LeO.ite ?_ ?_
   | refine LeO.bind ?_ (fun _ => ?_)
theorem laws_FnExactPinsAt.mono : ∀ a0 a1 a2 k,LeO (laws_FnExactPinsAt.f k a0 a1 a2) (laws_FnExactPinsAt.f (k + 1) a0 a1 a2) := by
 intro a0 a1 a2 k
 obtain ⟨ih0,ih1,ih2⟩ := laws_FnExactPinsAt.mono_l k
 unfold laws_FnExactPinsAt.f
 repeat' first
   | (with_reducible exact ih0 _ _ _ _ _ _ _ _ _ _)
   | (with_reducible exact ih1 _ _ _ _ _ _ _)
   | (with_reducible exact ih2 _ _ _)
   | (with_reducible exact impl_PinsAt.mono _ _ _ _)
   | (with_reducible exact laws_eqStore.mono _ _ _ _ _)
   | (with_reducible exact laws_eqStringS.mono _ _ _)
   | (with_reducible exact laws_heldStringS.mono _ _ _)
   | (with_reducible exact laws_markStore.mono _ _ _ _)
   | (with_reducible exact laws_markStringS.mono _ _ _)
   | (with_reducible exact laws_szStore.mono _ _ _ _)
   | (with_reducible exact laws_toStore.mono _ _ _)
   | (with_reducible exact spec_PinsAt.mono _ _ _ _)
   | (with_reducible exact LeO.refl _)
   | (with_reducible exact LeO.none _)
   | (with_reducible refine LeO.ite ?_ ?_)
   | (with_reducible refine LeO.bind ?_ (fun _ => ?_))
   | exact ih0 _ _ _ _ _ _ _ _ _ _
   | exact ih1 _ _ _ _ _ _ _
   | exact ih2 _ _ _
   | exact impl_PinsAt.mono _ _ _ _
   | exact laws_eqStore.mono _ _ _ _ _
   | exact laws_eqStringS.mono _ _ _
   | exact laws_heldStringS.mono _ _ _
   | exact laws_markStore.mono _ _ _ _
   | exact laws_markStringS.mono _ _ _
   | exact laws_szStore.mono _ _ _ _
   | exact laws_toStore.mono _ _ _
   | exact spec_PinsAt.mono _ _ _ _
   | exact LeO.none _
   | refine LeO.ite ?_ ?_
   | refine LeO.bind ?_ (fun _ => ?_)
set_option maxHeartbeats 8000000 in
set_option maxRecDepth 100000 in
theorem laws_FnExactPinsAt.calls (k : Nat) (A0_0 : Option Addr) (c0_0 : Nat) (l0_0 : List (S50)) (a0_1 : Int) (a1 : Int) (r : Bool) (w : World) (hV : Vars w) (hr0_0 : Kd.C k50 w A0_0 l0_0.length l0_0) (hc0_0 : l0_0.length ≤ c0_0) (h : laws_FnExactPinsAt.f k l0_0 a0_1 a1 = some r) :
  Calls Tryd.prog 3 #[.agg #[.slice A0_0 l0_0.length c0_0,.int .i64 a0_1],.int .i64 a1] w fun e w' => e = .returned (.bool r) ∧ Below w.heap.size w w' := by
 have hu24 := Tryd.underlying24
 have hu31 := Tryd.underlying31
 have HR0_0 := Aside0.mk hr0_0
 have HC0_0 := Aside0.mk hc0_0
 clear hr0_0 hc0_0
 have HV := Aside0.mk hV
 clear hV
 have HB := Aside0.mk (Below.refl w.heap.size w)
 have H : ((laws_szStore.f k l0_0 a0_1 1048576).bind fun t237 => (if t237 < 0 then (some true) else ((laws_toStore.f k l0_0 a0_1).bind fun bt238 => ((spec_PinsAt.f k bt238.1 bt238.2 a1).bind fun bt242 => ((laws_toStore.f k l0_0 a0_1).bind fun bt246 => ((impl_PinsAt.f k bt246.1 bt246.2 a1).bind fun bt251 => ((laws_eqStringS.f k bt251.1 bt242.1).bind fun t255 => (if t255 = true then (laws_FnExactPinsAt.j0 k a1 bt242.1 bt242.2 bt251.1 bt251.2 (bt251.2 != bt242.2) l0_0 a0_1 bt246.1 bt246.2) else (laws_FnExactPinsAt.j0 k a1 bt242.1 bt242.2 bt251.1 bt251.2 true l0_0 a0_1 bt246.1 bt246.2))))))))) = some r := h
 clear h
 replace H := Option.bind_eq_some_iff.mp H
 obtain ⟨t237,A30,H⟩ := H
 try dsimp only at H
 have A3 := Aside0.mk A30
 clear A30
 by_cases c4 : t237 < 0
 ·rw [if_pos c4] at H
  have c4b0 : decide (t237 < 0) = true := decide_eq_true c4
  clear c4
  obtain rfl := Option.some.inj H
  go_enter Tryd.func3,Tryd.ntmps3
  go_wp2_with (first | ((with_reducible refine gate_dst (N:=2) rfl ?_); refine box_event ?hg (N:=2) ?hd (cs := #[.slice A0_0 l0_0.length c0_0,.int .i64 a0_1]) (t:=24) ?hr ?_; (case hd => rfl); (case hg => rfl); (case hr => first | (go_simp; done) | (go_simp; rfl)); intro gb236 hg w5 hbox hb; have n0_ := Aside0.mk (below_step bA hb); have n1_ := Aside0.mk (hbox); have n2_ := Aside0.mk ((by rw [hg]; exact (below_size bA) : w.heap.size ≤ gb236)); have n3_ := Aside0.mk ((by rw [hg]; exact (below_size bA) : w.heap.size ≤ gb236)); clear HB; have HB := n0_; have BK236 := n1_; have GW236 := n2_; have GE236 := n3_; clear n0_ n1_ n2_ n3_; clear hb hbox hg; have hcz6_0 : w5.cell? ⟨gb236,0,none⟩ = some (.slice A0_0 l0_0.length c0_0) := (blk_cell BK236.out 0).trans rfl; have hcz6_1 : w5.cell? ⟨gb236,1,none⟩ = some (.int .i64 a0_1) := (blk_cell BK236.out 1).trans rfl; have hfz6_0 := blk_frozen BK236.out 0; have hfz6_1 := blk_frozen BK236.out 1) | ((with_reducible refine gate_callee (f:=4) rfl ?_); refine goesL_ (some 18) rfl rfl Tryd.func4 (by kernel_rfl) rfl #[.agg #[.slice A0_0 l0_0.length c0_0,.int .i64 a0_1],.int .i64 1048576] rfl mA ?_; (with_reducible refine (laws_szStore.calls k _ _ l0_0 a0_1 1048576 t237 _ ?side1 ?side2 A3.out).mono ?_); (case side1 => repeat (first | exact (Kd.C_below HR0_0.out HB.out) | (with_reducible refine Kd.C_alloc ?_ _) | (with_reducible refine Kd.C_drewN ?_ _) | (with_reducible refine Kd.C_drew ?_))); (case side2 => exact HC0_0.out); rintro e w7 ⟨rfl,hb⟩; refine ⟨_,rfl,?_⟩; have n0_ := Aside0.mk (blk_below (g:=gb236) (o:=.cells #[.slice A0_0 l0_0.length c0_0,.int .i64 a0_1] 24 (0,0)) (kA BK236.out) hb); have n1_ := Aside0.mk (below_step bA hb); clear BK236; clear HB; have BK236 := n0_; have HB := n1_; clear n0_ n1_; (try clear hb); (try clear hb2); (try clear hk); (try clear hi)))
  go_ret
  exact ⟨by first | rfl | (simp [errW_none,errW_some] <;> rfl) | (simp [*,errW_none,errW_some] <;> rfl),bA⟩
 ·rw [if_neg c4] at H
  have c4b0 : decide (t237 < 0) = false := decide_eq_false c4
  clear c4
  replace H := Option.bind_eq_some_iff.mp H
  obtain ⟨⟨t238,t241⟩,A80,H⟩ := H
  try dsimp only at H
  have A8 := Aside0.mk A80
  clear A80
  replace H := Option.bind_eq_some_iff.mp H
  obtain ⟨⟨t242,t245⟩,A90,H⟩ := H
  try dsimp only at H
  have A9 := Aside0.mk A90
  clear A90
  replace H := Option.bind_eq_some_iff.mp H
  obtain ⟨⟨t246,t249⟩,A100,H⟩ := H
  try dsimp only at H
  have A10 := Aside0.mk A100
  clear A100
  replace H := Option.bind_eq_some_iff.mp H
  obtain ⟨⟨t251,t254⟩,A110,H⟩ := H
  try dsimp only at H
  have A11 := Aside0.mk A110
  clear A110
  have HC12 := Aside0.mk H
  clear H
  go_enter Tryd.func3,Tryd.ntmps3
  go_upto_region 8 with (first | ((with_reducible refine gate_dst (N:=2) rfl ?_); refine box_event ?hg (N:=2) ?hd (cs := #[.slice A0_0 l0_0.length c0_0,.int .i64 a0_1]) (t:=24) ?hr ?_; (case hd => rfl); (case hg => rfl); (case hr => first | (go_simp; done) | (go_simp; rfl)); intro gb236 hg w13 hbox hb; have n0_ := Aside0.mk (below_step bA hb); have n1_ := Aside0.mk (hbox); have n2_ := Aside0.mk ((by rw [hg]; exact (below_size bA) : w.heap.size ≤ gb236)); have n3_ := Aside0.mk ((by rw [hg]; exact (below_size bA) : w.heap.size ≤ gb236)); clear HB; have HB := n0_; have BK236 := n1_; have GW236 := n2_; have GE236 := n3_; clear n0_ n1_ n2_ n3_; clear hb hbox hg; have hcz14_0 : w13.cell? ⟨gb236,0,none⟩ = some (.slice A0_0 l0_0.length c0_0) := (blk_cell BK236.out 0).trans rfl; have hcz14_1 : w13.cell? ⟨gb236,1,none⟩ = some (.int .i64 a0_1) := (blk_cell BK236.out 1).trans rfl; have hfz14_0 := blk_frozen BK236.out 0; have hfz14_1 := blk_frozen BK236.out 1) | ((with_reducible refine gate_callee (f:=4) rfl ?_); refine goesL_ (some 18) rfl rfl Tryd.func4 (by kernel_rfl) rfl #[.agg #[.slice A0_0 l0_0.length c0_0,.int .i64 a0_1],.int .i64 1048576] rfl mA ?_; (with_reducible refine (laws_szStore.calls k _ _ l0_0 a0_1 1048576 t237 _ ?side1 ?side2 A3.out).mono ?_); (case side1 => repeat (first | exact (Kd.C_below HR0_0.out HB.out) | (with_reducible refine Kd.C_alloc ?_ _) | (with_reducible refine Kd.C_drewN ?_ _) | (with_reducible refine Kd.C_drew ?_))); (case side2 => exact HC0_0.out); rintro e w15 ⟨rfl,hb⟩; refine ⟨_,rfl,?_⟩; have n0_ := Aside0.mk (blk_below (g:=gb236) (o:=.cells #[.slice A0_0 l0_0.length c0_0,.int .i64 a0_1] 24 (0,0)) (kA BK236.out) hb); have n1_ := Aside0.mk (below_step bA hb); clear BK236; clear HB; have BK236 := n0_; have HB := n1_; clear n0_ n1_; (try clear hb); (try clear hb2); (try clear hk); (try clear hi); have hcz16_0 : w15.cell? ⟨gb236,0,none⟩ = some (.slice A0_0 l0_0.length c0_0) := (blk_cell BK236.out 0).trans rfl; have hcz16_1 : w15.cell? ⟨gb236,1,none⟩ = some (.int .i64 a0_1) := (blk_cell BK236.out 1).trans rfl; have hfz16_0 := blk_frozen BK236.out 0; have hfz16_1 := blk_frozen BK236.out 1) | ((with_reducible refine gate_callee (f:=6) rfl ?_); refine goesL_ (some 23) rfl rfl Tryd.func6 (by kernel_rfl) rfl #[.agg #[.slice A0_0 l0_0.length c0_0,.int .i64 a0_1]] rfl mA ?_; (with_reducible refine (laws_toStore.calls k _ _ l0_0 a0_1 t238 t241 _ ?side1 ?side2 A8.out).mono ?_); (case side1 => repeat (first | exact (Kd.C_below HR0_0.out HB.out) | (with_reducible refine Kd.C_alloc ?_ _) | (with_reducible refine Kd.C_drewN ?_ _) | (with_reducible refine Kd.C_drew ?_))); (case side2 => exact HC0_0.out); rintro e w17 ⟨v239,rfl,ho0,hb⟩; refine ⟨_,rfl,?_⟩; have n0_ := Aside0.mk (Kd.R_lower ho0 (below_size bA)); have n1_ := Aside0.mk (blk_below (g:=gb236) (o:=.cells #[.slice A0_0 l0_0.length c0_0,.int .i64 a0_1] 24 (0,0)) (kA BK236.out) hb); have n2_ := Aside0.mk (below_step bA hb); clear BK236; clear HB; have HO240 := n0_; have BK236 := n1_; have HB := n2_; clear n0_ n1_ n2_; (try clear hb); (try clear hb2); (try clear hk); (try clear hi); (try clear ho0); obtain ⟨Ao18,co18,eo18⟩ := Kd.R_slice HO240.out; subst eo18) | ((with_reducible refine gate_callee (f:=5) rfl ?_); refine goesL_ (some 25) rfl rfl Tryd.func5 (by kernel_rfl) rfl #[.agg #[.slice Ao18 t238.length co18,.int .i64 t241],.int .i64 a1] rfl mA ?_; (with_reducible refine (spec_PinsAt.calls k _ _ t238 t241 a1 t242 t245 _ ?side1 ?side2 A9.out).mono ?_); (case side1 => repeat (first | exact (Kd.R_reads' HO240.out).2.2 | (with_reducible refine Kd.C_alloc ?_ _) | (with_reducible refine Kd.C_drewN ?_ _) | (with_reducible refine Kd.C_drew ?_))); (case side2 => exact (Kd.R_reads' HO240.out).2.1); rintro e w19 ⟨v243,rfl,ho0,hb⟩; refine ⟨_,rfl,?_⟩; have n0_ := Aside0.mk (Kd.R_below (rA HO240.out) hb); have n1_ := Aside0.mk (Kd.R_lower ho0 (below_size bA)); have n2_ := Aside0.mk (blk_below (g:=gb236) (o:=.cells #[.slice A0_0 l0_0.length c0_0,.int .i64 a0_1] 24 (0,0)) (kA BK236.out) hb); have n3_ := Aside0.mk (below_step bA hb); clear HO240; clear BK236; clear HB; have HO240 := n0_; have HO244 := n1_; have BK236 := n2_; have HB := n3_; clear n0_ n1_ n2_ n3_; (try clear hb); (try clear hb2); (try clear hk); (try clear hi); (try clear ho0); have hcz20_0 : w19.cell? ⟨gb236,0,none⟩ = some (.slice A0_0 l0_0.length c0_0) := (blk_cell BK236.out 0).trans rfl; have hcz20_1 : w19.cell? ⟨gb236,1,none⟩ = some (.int .i64 a0_1) := (blk_cell BK236.out 1).trans rfl; have hfz20_0 := blk_frozen BK236.out 0; have hfz20_1 := blk_frozen BK236.out 1) | ((with_reducible refine gate_callee (f:=6) rfl ?_); refine goesL_ (some 29) rfl rfl Tryd.func6 (by kernel_rfl) rfl #[.agg #[.slice A0_0 l0_0.length c0_0,.int .i64 a0_1]] rfl mA ?_; (with_reducible refine (laws_toStore.calls k _ _ l0_0 a0_1 t246 t249 _ ?side1 ?side2 A10.out).mono ?_); (case side1 => repeat (first | exact (Kd.C_below HR0_0.out HB.out) | (with_reducible refine Kd.C_alloc ?_ _) | (with_reducible refine Kd.C_drewN ?_ _) | (with_reducible refine Kd.C_drew ?_))); (case side2 => exact HC0_0.out); rintro e w21 ⟨v247,rfl,ho0,hb⟩; refine ⟨_,rfl,?_⟩; have n0_ := Aside0.mk (Kd.R_elder' (rA HO240.out) (Kd.R_base ho0) hb); have n1_ := Aside0.mk (Kd.R_below (rA HO244.out) hb); have n2_ := Aside0.mk (Kd.R_lower (Kd.R_new' ho0 (Kd.R_lt (rA HO240.out))) (below_size bA)); have n3_ := Aside0.mk (blk_below (g:=gb236) (o:=.cells #[.slice A0_0 l0_0.length c0_0,.int .i64 a0_1] 24 (0,0)) (kA BK236.out) hb); have n4_ := Aside0.mk (below_step bA hb); clear HO240; clear HO244; clear BK236; clear HB; have HO240 := n0_; have HO244 := n1_; have HO248 := n2_; have BK236 := n3_; have HB := n4_; clear n0_ n1_ n2_ n3_ n4_; (try clear hb); (try clear hb2); (try clear hk); (try clear hi); (try clear ho0)) | ((with_reducible refine gate_dst (N:=8) rfl ?_); refine box_event ?hg (N:=8) ?hd (cs := #[.slice none 0 0,.int .i64 0]) (t:=31) ?hr ?_; (case hd => rfl); (case hg => rfl); (case hr => first | (go_simp; done) | (go_simp; rfl)); intro gb250 hg w22 hbox hb; have n0_ := Aside0.mk (Kd.R_below (rA HO240.out) hb); have n1_ := Aside0.mk (Kd.R_below (rA HO244.out) hb); have n2_ := Aside0.mk (Kd.R_below (rA HO248.out) hb); have n3_ := Aside0.mk (blk_below (g:=gb236) (o:=.cells #[.slice A0_0 l0_0.length c0_0,.int .i64 a0_1] 24 (0,0)) (kA BK236.out) hb); have n4_ := Aside0.mk (below_step bA hb); have n5_ := Aside0.mk (hbox); have n6_ := Aside0.mk ((by rw [hg]; exact (below_size bA) : w.heap.size ≤ gb250)); have n7_ := Aside0.mk ((by rw [hg]; exact (below_size bA) : w.heap.size ≤ gb250)); have n8_ := Aside0.mk ((by rw [hg]; exact Nat.ne_of_lt (blk_lt (g:=gb236) (o:=.cells #[.slice A0_0 l0_0.length c0_0,.int .i64 a0_1] 24 (0,0)) (kA BK236.out)) : gb236 ≠ gb250)); have n9_ := Aside0.mk ((by rw [hg]; exact Nat.ne_of_gt (blk_lt (g:=gb236) (o:=.cells #[.slice A0_0 l0_0.length c0_0,.int .i64 a0_1] 24 (0,0)) (kA BK236.out)) : gb250 ≠ gb236)); clear HO240; clear HO244; clear HO248; clear BK236; clear HB; have HO240 := n0_; have HO244 := n1_; have HO248 := n2_; have BK236 := n3_; have HB := n4_; have BK250 := n5_; have GW250 := n6_; have GE250 := n7_; have NB236_250 := n8_; have NB250_236 := n9_; clear n0_ n1_ n2_ n3_ n4_ n5_ n6_ n7_ n8_ n9_; clear hb hbox hg; obtain ⟨Ao23,co23,eo23⟩ := Kd.R_slice HO248.out; subst eo23; have hnb24 := NB250_236.out; have hnc24 := NB236_250.out; have hcz25_0 : w22.cell? ⟨gb250,0,none⟩ = some (.slice none 0 0) := (blk_cell BK250.out 0).trans rfl; have hcz25_1 : w22.cell? ⟨gb250,1,none⟩ = some (.int .i64 0) := (blk_cell BK250.out 1).trans rfl; have hfz25_0 := blk_frozen BK250.out 0; have hfz25_1 := blk_frozen BK250.out 1) | ((with_reducible refine gate_callee (f:=7) rfl ?_); refine goesL_ (some 33) rfl rfl Tryd.func7 (by kernel_rfl) rfl #[.agg #[.slice Ao23 t246.length co23,.int .i64 t249],.int .i64 a1] rfl mA ?_; (with_reducible refine (impl_PinsAt.calls k _ _ t246 t249 a1 t251 t254 _ ?side1 ?side2 ?side3 A11.out).mono ?_); (case side1 => exact HV.out.below bA); (case side2 => refine (Kd.R_reads' (e:=51) (base := w.heap.size) (ok := fun k_ => (True ∧ some k_ ≠ (.slice Ao18 t238.length co18 : Value).ownBlock)) (n:=t246.length) (c:=co23) ?_).2.2; exact (by (with_reducible repeat (first | apply Kd.R_alloc | apply Kd.R_drewN | apply Kd.R_drew)); exact (Kd.R_mono (Kd.R_far (p:=⟨gb250,1,none⟩) (Kd.R_far (p:=⟨gb250,0,none⟩) (Kd.R_types HO248.out BK250.out (by decide)) (fun _ hk => hk.2) (.slice Ao23 t246.length co23)) (fun _ hk => hk.2) (.int .i64 t249)) (fun _ h_ => h_.1)))); (case side3 => exact (Kd.R_reads' HO248.out).2.1); rintro e w26 ⟨v252,rfl,ho0,hb⟩; refine ⟨_,rfl,?_⟩; have n0_ := Aside0.mk (Kd.R_below (by (with_reducible repeat (first | apply Kd.R_alloc | apply Kd.R_drewN | apply Kd.R_drew)); exact (Kd.R_mono (Kd.R_far (p:=⟨gb250,1,none⟩) (Kd.R_far (p:=⟨gb250,0,none⟩) (Kd.R_types HO240.out BK250.out (by decide)) (fun _ hk => hk.2) (.slice Ao23 t246.length co23)) (fun _ hk => hk.2) (.int .i64 t249)) (fun _ h_ => h_.1))) hb); have n1_ := Aside0.mk (Kd.R_elder' (by (with_reducible repeat (first | apply Kd.R_alloc | apply Kd.R_drewN | apply Kd.R_drew)); exact (Kd.R_mono (Kd.R_far (p:=⟨gb250,1,none⟩) (Kd.R_far (p:=⟨gb250,0,none⟩) (Kd.R_types HO244.out BK250.out (by decide)) (fun _ hk => hk.2) (.slice Ao23 t246.length co23)) (fun _ hk => hk.2) (.int .i64 t249)) (fun _ h_ => h_.1))) (Kd.R_base ho0) hb); have n2_ := Aside0.mk (Kd.R_below (by (with_reducible repeat (first | apply Kd.R_alloc | apply Kd.R_drewN | apply Kd.R_drew)); exact (Kd.R_mono (Kd.R_far (p:=⟨gb250,1,none⟩) (Kd.R_far (p:=⟨gb250,0,none⟩) (Kd.R_types HO248.out BK250.out (by decide)) (fun _ hk => hk.2) (.slice Ao23 t246.length co23)) (fun _ hk => hk.2) (.int .i64 t249)) (fun _ h_ => h_.1))) hb); have n3_ := Aside0.mk (Kd.R_lower (Kd.R_new' ho0 (Kd.R_lt (by (with_reducible repeat (first | apply Kd.R_alloc | apply Kd.R_drewN | apply Kd.R_drew)); exact (Kd.R_mono (Kd.R_far (p:=⟨gb250,1,none⟩) (Kd.R_far (p:=⟨gb250,0,none⟩) (Kd.R_types HO244.out BK250.out (by decide)) (fun _ hk => hk.2) (.slice Ao23 t246.length co23)) (fun _ hk => hk.2) (.int .i64 t249)) (fun _ h_ => h_.1))))) (below_size bA)); have n4_ := Aside0.mk (blk_below (g:=gb236) (o:=.cells #[.slice A0_0 l0_0.length c0_0,.int .i64 a0_1] 24 (0,0)) (kF BK236.out) hb); have n5_ := Aside0.mk (blk_below (g:=gb250) (o:=.cells #[.slice Ao23 t246.length co23,.int .i64 t249] 31 (0,0)) (by (with_reducible repeat (first | refine blk_drewN ?_ _ | refine blk_drew ?_ | refine blk_alloc ?_ _)); refine blk_put (cs := #[.slice Ao23 t246.length co23,.int .i64 0]) ?_ 1 _ rfl; (with_reducible repeat (first | refine blk_drewN ?_ _ | refine blk_drew ?_ | refine blk_alloc ?_ _)); refine blk_put (cs := #[.slice none 0 0,.int .i64 0]) ?_ 0 _ rfl; (with_reducible repeat (first | refine blk_drewN ?_ _ | refine blk_drew ?_ | refine blk_alloc ?_ _)); exact BK250.out) hb); have n6_ := Aside0.mk (below_step bA hb); clear HO240; clear HO244; clear HO248; clear BK236; clear BK250; clear HB; have HO240 := n0_; have HO244 := n1_; have HO248 := n2_; have HO253 := n3_; have BK236 := n4_; have BK250 := n5_; have HB := n6_; clear n0_ n1_ n2_ n3_ n4_ n5_ n6_; (try clear hb); (try clear hb2); (try clear hk); (try clear hi); (try clear ho0)))
  (try simp only [Act.put,setIfInBounds_toArray,set_cons_zero,set_cons_succ])
  go_cut [44] (fun v44 wc => ∃ (kq : Nat) (x44_11 : Bool),v44 = .bool x44_11 ∧ Aside0 (laws_FnExactPinsAt.j0 kq a1 t242 t245 t251 t254 x44_11 l0_0 a0_1 t246 t249 = some r) ∧ Aside0 (kq ≤ k) ∧ Aside0 (Kd.R Kd.string 9 wc w.heap.size (fun k_ => some k_ ≠ (v252 : Value).ownBlock) v243 t242) ∧ Aside0 (Kd.R Kd.string 9 wc w.heap.size (fun k_ => some k_ ≠ (v243 : Value).ownBlock) v252 t251) ∧ Aside0 (Kd.R k51 51 wc w.heap.size (fun _ => True) (.slice Ao23 t246.length co23) t246) ∧ Aside0 (wc.heap[gb236]? = some (.cells #[(.slice A0_0 l0_0.length c0_0),.int .i64 a0_1] 24 (0,0))) ∧ Aside0 (wc.heap[gb250]? = some (.cells #[(.slice Ao23 t246.length co23),.int .i64 t249] 31 (0,0))) ∧ Aside0 (Below w.heap.size w wc))
  case first =>
   have H := HC12.out
   clear HC12
   replace H := Option.bind_eq_some_iff.mp H
   obtain ⟨t255,A270,H⟩ := H
   try dsimp only at H
   have A27 := Aside0.mk A270
   clear A270
   by_cases c28 : t255 = true
   ·subst c28
    rw [if_pos rfl] at H
    have H' := Aside0.mk H
    clear H
    obtain ⟨Ao29,co29,eo29⟩ := Kd.R_slice HO253.out
    subst eo29
    obtain ⟨Ao30,co30,eo30⟩ := Kd.R_slice HO244.out
    subst eo30
    go_wp2_with (first | ((with_reducible refine gate_callee (f:=8) rfl ?_); refine goesL_ (some 38) rfl rfl Tryd.func8 (by kernel_rfl) rfl #[.slice Ao29 t251.length co29,.slice Ao30 t242.length co30] rfl mA ?_; (with_reducible refine (laws_eqStringS.calls k _ _ t251 _ _ t242 true _ ?side1 ?side2 ?side3 ?side4 A27.out).mono ?_); (case side1 => repeat (first | exact (Kd.R_reads' HO253.out).2.2 | (with_reducible refine Kd.C_alloc ?_ _) | (with_reducible refine Kd.C_drewN ?_ _) | (with_reducible refine Kd.C_drew ?_))); (case side2 => exact (Kd.R_reads' HO253.out).2.1); (case side3 => repeat (first | exact (Kd.R_reads' HO244.out).2.2 | (with_reducible refine Kd.C_alloc ?_ _) | (with_reducible refine Kd.C_drewN ?_ _) | (with_reducible refine Kd.C_drew ?_))); (case side4 => exact (Kd.R_reads' HO244.out).2.1); rintro e w' ⟨rfl,⟨nd,rfl⟩⟩; refine ⟨_,rfl,?_⟩))
    go_meet
    case rel => exact ⟨_,((t254 != t245)),(by first | rfl | (simp; done) | (simp [*]; done)),H',⟨by first | omega | exact Nat.le_refl _⟩,⟨by (with_reducible repeat (first | apply Kd.R_alloc | apply Kd.R_drewN | apply Kd.R_drew)); exact Kd.R_mono HO244.out (fun _ hk => hk.2)⟩,⟨by (with_reducible repeat (first | apply Kd.R_alloc | apply Kd.R_drewN | apply Kd.R_drew)); exact Kd.R_mono HO253.out (fun _ hk => hk.2)⟩,⟨by (with_reducible repeat (first | apply Kd.R_alloc | apply Kd.R_drewN | apply Kd.R_drew)); exact Kd.R_mono HO248.out (fun _ hk => trivial)⟩,⟨kA BK236.out⟩,⟨kA BK250.out⟩,⟨bA⟩⟩
   ·replace c28 := Bool.eq_false_iff.mpr c28
    subst c28
    rw [if_neg (show ¬ (false = true) by decide)] at H
    have H' := Aside0.mk H
    clear H
    obtain ⟨Ao31,co31,eo31⟩ := Kd.R_slice HO253.out
    subst eo31
    obtain ⟨Ao32,co32,eo32⟩ := Kd.R_slice HO244.out
    subst eo32
    go_wp2_with (first | ((with_reducible refine gate_callee (f:=8) rfl ?_); refine goesL_ (some 38) rfl rfl Tryd.func8 (by kernel_rfl) rfl #[.slice Ao31 t251.length co31,.slice Ao32 t242.length co32] rfl mA ?_; (with_reducible refine (laws_eqStringS.calls k _ _ t251 _ _ t242 false _ ?side1 ?side2 ?side3 ?side4 A27.out).mono ?_); (case side1 => repeat (first | exact (Kd.R_reads' HO253.out).2.2 | (with_reducible refine Kd.C_alloc ?_ _) | (with_reducible refine Kd.C_drewN ?_ _) | (with_reducible refine Kd.C_drew ?_))); (case side2 => exact (Kd.R_reads' HO253.out).2.1); (case side3 => repeat (first | exact (Kd.R_reads' HO244.out).2.2 | (with_reducible refine Kd.C_alloc ?_ _) | (with_reducible refine Kd.C_drewN ?_ _) | (with_reducible refine Kd.C_drew ?_))); (case side4 => exact (Kd.R_reads' HO244.out).2.1); rintro e w' ⟨rfl,⟨nd,rfl⟩⟩; refine ⟨_,rfl,?_⟩))
    go_meet
    case rel => exact ⟨_,(true),(by first | rfl | (simp; done) | (simp [*]; done)),H',⟨by first | omega | exact Nat.le_refl _⟩,⟨by (with_reducible repeat (first | apply Kd.R_alloc | apply Kd.R_drewN | apply Kd.R_drew)); exact Kd.R_mono HO244.out (fun _ hk => hk.2)⟩,⟨by (with_reducible repeat (first | apply Kd.R_alloc | apply Kd.R_drewN | apply Kd.R_drew)); exact Kd.R_mono HO253.out (fun _ hk => hk.2)⟩,⟨by (with_reducible repeat (first | apply Kd.R_alloc | apply Kd.R_drewN | apply Kd.R_drew)); exact Kd.R_mono HO248.out (fun _ hk => trivial)⟩,⟨kA BK236.out⟩,⟨kA BK250.out⟩,⟨bA⟩⟩
  case rest =>
   clear HC12
   try clear c2
   try clear p2
   try clear c3
   try clear c4
   try clear c4b0
   try clear c5
   try clear c6
   try clear c7
   try clear c8
   try clear c24
   try clear c28
   try clear hcz14_0
   try clear hcz14_1
   try clear hcz16_0
   try clear hcz16_1
   try clear hcz20_0
   try clear hcz20_1
   try clear hcz25_0
   try clear hcz25_1
   try clear hcz6_0
   try clear hcz6_1
   try clear hfz14_0
   try clear hfz14_1
   try clear hfz16_0
   try clear hfz16_1
   try clear hfz20_0
   try clear hfz20_1
   try clear hfz25_0
   try clear hfz25_1
   try clear hfz6_0
   try clear hfz6_1
   obtain ⟨kq,x44_11,rfl,HA,HJ11,HO_6,HO_9,HO_251000,BK236,BK250,HB⟩ := hcut
   cases kq with
   | zero => exact absurd HA.out (by simp [laws_FnExactPinsAt.j0])
   | succ kj11 =>
    have H := HA.out
    clear HA
    simp only [laws_FnExactPinsAt.j0] at H
    by_cases c33 : x44_11 = true
    ·subst c33
     rw [if_pos rfl] at H
     exact absurd H (by simp)
    ·replace c33 := Bool.eq_false_iff.mpr c33
     subst c33
     rw [if_neg (show ¬ (false = true) by decide)] at H
     replace H := Option.bind_eq_some_iff.mp H
     obtain ⟨⟨t256,t259⟩,A340,H⟩ := H
     try dsimp only at H
     have A34 := Aside0.mk A340
     clear A340
     replace H := Option.bind_eq_some_iff.mp H
     obtain ⟨t260,A350,H⟩ := H
     try dsimp only at H
     have A35 := Aside0.mk A350
     clear A350
     by_cases c36 : t260 = true
     ·subst c36
      rw [if_pos rfl] at H
      replace H := Option.bind_eq_some_iff.mp H
      obtain ⟨⟨t261,t262⟩,A370,H⟩ := H
      try dsimp only at H
      have A37 := Aside0.mk A370
      clear A370
      have HC38 := Aside0.mk H
      clear H
      try go_wp2
      have n0_ := Aside0.mk (Kd.R_drew HO_6.out)
      have n1_ := Aside0.mk (Kd.R_drew HO_9.out)
      have n2_ := Aside0.mk (Kd.R_drew HO_251000.out)
      have n3_ := Aside0.mk (blk_drew BK236.out)
      have n4_ := Aside0.mk (blk_drew BK250.out)
      have n5_ := Aside0.mk (below_drew1 HB.out)
      clear HO_6
      clear HO_9
      clear HO_251000
      clear BK236
      clear BK250
      clear HB
      have HO_6 := n0_
      have HO_9 := n1_
      have HO_251000 := n2_
      have BK236 := n3_
      have BK250 := n4_
      have HB := n5_
      clear n0_ n1_ n2_ n3_ n4_ n5_
      refine start_ (n:=5) (S:=fun w' => w'.cell? ⟨gb250,0,none⟩ = some (.slice Ao23 t246.length co23) ∧ w'.cell? ⟨gb250,1,none⟩ = some (.int .i64 t249) ∧ w'.cell? ⟨gb236,0,none⟩ = some (.slice A0_0 l0_0.length c0_0) ∧ w'.cell? ⟨gb236,1,none⟩ = some (.int .i64 a0_1)) (ds := []) (bm 5 0) (by kernel_rfl) rfl rfl ⟨(blk_cell BK250.out 0).trans rfl,(blk_cell BK250.out 1).trans rfl,(blk_cell BK236.out 0).trans rfl,(blk_cell BK236.out 1).trans rfl⟩ (fun hHeld => ?_)
      generalize wc.drew = w39 at HO_6 HO_9 HO_251000 BK236 BK250 HB hHeld ⊢
      refine take_ (i:=0) (N:=some 45) (v:=?_) (a':=?_) (bm 5 1) rfl rfl (by kernel_rfl) (fun _ _ _ h => h) (Or.inl ⟨by rfl,?_⟩) hHeld ?_ ?_
      rotate_left
      ·rintro w' ⟨s0,s1,s2,s3⟩
       go_simp
       with_reducible rfl
      rotate_left
      ·simp only [Act.put,setIfInBounds_toArray,set_cons_zero,set_cons_succ,i64_w,i32_w]
       rfl
      refine take_ (i:=1) (N:=some 46) (v:=?_) (a':=?_) (bm 5 3) rfl rfl (by kernel_rfl) (fun _ _ _ h => h) (Or.inl ⟨by rfl,?_⟩) hHeld ?_ ?_
      rotate_left
      ·rintro w' ⟨s0,s1,s2,s3⟩
       go_simp
       with_reducible rfl
      rotate_left
      ·simp only [Act.put,setIfInBounds_toArray,set_cons_zero,set_cons_succ,i64_w,i32_w]
       rfl
      refine one_ (i:=2) (N:=some 47) (bm 5 7) rfl rfl (by kernel_rfl) (by decide) (fun K hK => ?_)
      refine goes_ Tryd.func6 (by kernel_rfl) rfl #[.agg #[.slice A0_0 l0_0.length c0_0,.int .i64 a0_1]] (by rfl) rfl rfl mA ?_
      with_reducible refine (laws_toStore.calls kj11 _ _ l0_0 a0_1 t256 t259 _ ?side1 ?side2 A34.out).mono ?_
      (case side1 => repeat (first | exact (Kd.C_below HR0_0.out HB.out) | (with_reducible refine Kd.C_alloc ?_ _) | (with_reducible refine Kd.C_drewN ?_ _) | (with_reducible refine Kd.C_drew ?_)))
      (case side2 => exact HC0_0.out)
      rintro e w40 ⟨v257,rfl,ho0,hb⟩
      refine ⟨_,rfl,?_⟩
      have n0_ := Aside0.mk (Kd.R_below (rA HO_6.out) hb)
      have n1_ := Aside0.mk (Kd.R_below (rA HO_9.out) hb)
      have n2_ := Aside0.mk (Kd.R_elder' (rA HO_251000.out) (Kd.R_base ho0) hb)
      have n3_ := Aside0.mk (Kd.R_lower (Kd.R_new' ho0 (Kd.R_lt (rA HO_251000.out))) (below_size bA))
      have n4_ := Aside0.mk (blk_below (g:=gb236) (o:=.cells #[.slice A0_0 l0_0.length c0_0,.int .i64 a0_1] 24 (0,0)) (kA BK236.out) hb)
      have n5_ := Aside0.mk (blk_below (g:=gb250) (o:=.cells #[.slice Ao23 t246.length co23,.int .i64 t249] 31 (0,0)) (kA BK250.out) hb)
      have n6_ := Aside0.mk (below_step bA hb)
      clear HO_6
      clear HO_9
      clear HO_251000
      clear BK236
      clear BK250
      clear HB
      have HO_6 := n0_
      have HO_9 := n1_
      have HO_251000 := n2_
      have HO258 := n3_
      have BK236 := n4_
      have BK250 := n5_
      have HB := n6_
      clear n0_ n1_ n2_ n3_ n4_ n5_ n6_
      (try clear hb)
      (try clear hb2)
      (try clear hk)
      (try clear hi)
      (try clear ho0)
      obtain ⟨Ao41,co41,eo41⟩ := Kd.R_slice HO258.out
      (first | subst eo41 | (injection eo41 with f1_ f2_ f3_; have f4_ := f1_.symm; have f5_ := f3_.symm; clear f1_ f2_ f3_; subst f4_; subst f5_))
      refine hK.out _ _ ⟨(blk_cell BK250.out 0).trans rfl,(blk_cell BK250.out 1).trans rfl,(blk_cell BK236.out 0).trans rfl,(blk_cell BK236.out 1).trans rfl⟩ (fun hHeld => ?_)
      clear hK K
      refine norm_ (a':=?_) ?_ ?_
      rotate_left
      ·show Act.put _ (some 47) _ = _
       simp only [Act.put,setIfInBounds_toArray,set_cons_zero,set_cons_succ,i64_w,i32_w]
       rfl
      refine one_ (i:=3) (N:=some 48) (bm 5 15) rfl rfl (by kernel_rfl) (by decide) (fun K hK => ?_)
      refine goes_ Tryd.func9 (by kernel_rfl) rfl #[.agg #[.slice Ao23 t246.length co23,.int .i64 t249],.agg #[.slice Ao41 t256.length co41,.int .i64 t259]] (by rfl) rfl rfl mA ?_
      with_reducible refine (laws_eqStore.calls kj11 _ _ t246 t249 _ _ t256 t259 true _ ?side1 ?side2 ?side3 ?side4 A35.out).mono ?_
      (case side1 => repeat (first | exact (Kd.R_reads' HO_251000.out).2.2 | (with_reducible refine Kd.C_alloc ?_ _) | (with_reducible refine Kd.C_drewN ?_ _) | (with_reducible refine Kd.C_drew ?_)))
      (case side2 => exact (Kd.R_reads' HO_251000.out).2.1)
      (case side3 => repeat (first | exact (Kd.R_reads' HO258.out).2.2 | (with_reducible refine Kd.C_alloc ?_ _) | (with_reducible refine Kd.C_drewN ?_ _) | (with_reducible refine Kd.C_drew ?_)))
      (case side4 => exact (Kd.R_reads' HO258.out).2.1)
      rintro e w42 ⟨rfl,hb⟩
      refine ⟨_,rfl,?_⟩
      have n0_ := Aside0.mk (Kd.R_below (rA HO_6.out) hb)
      have n1_ := Aside0.mk (Kd.R_below (rA HO_9.out) hb)
      have n2_ := Aside0.mk (Kd.R_below (rA HO_251000.out) hb)
      have n3_ := Aside0.mk (Kd.R_below (rA HO258.out) hb)
      have n4_ := Aside0.mk (blk_below (g:=gb236) (o:=.cells #[.slice A0_0 l0_0.length c0_0,.int .i64 a0_1] 24 (0,0)) (kA BK236.out) hb)
      have n5_ := Aside0.mk (blk_below (g:=gb250) (o:=.cells #[.slice Ao23 t246.length co23,.int .i64 t249] 31 (0,0)) (kA BK250.out) hb)
      have n6_ := Aside0.mk (below_step bA hb)
      clear HO_6
      clear HO_9
      clear HO_251000
      clear HO258
      clear BK236
      clear BK250
      clear HB
      have HO_6 := n0_
      have HO_9 := n1_
      have HO_251000 := n2_
      have HO258 := n3_
      have BK236 := n4_
      have BK250 := n5_
      have HB := n6_
      clear n0_ n1_ n2_ n3_ n4_ n5_ n6_
      (try clear hb)
      (try clear hb2)
      (try clear hk)
      (try clear hi)
      refine hK.out _ _ ⟨(blk_cell BK250.out 0).trans rfl,(blk_cell BK250.out 1).trans rfl,(blk_cell BK236.out 0).trans rfl,(blk_cell BK236.out 1).trans rfl⟩ (fun hHeld => ?_)
      clear hK K
      refine norm_ (a':=?_) ?_ ?_
      rotate_left
      ·show Act.put _ (some 48) _ = _
       simp only [Act.put,setIfInBounds_toArray,set_cons_zero,set_cons_succ,i64_w,i32_w]
       rfl
      refine pure_ (i:=4) (N:=some 49) (v:=?_) (a':=?_) (bm 5 31) rfl rfl (by kernel_rfl) (fun _ _ _ h => h) (Or.inl ⟨by rfl,?_⟩) ?_ ?_
      rotate_left
      ·intro w'
       go_simp
       with_reducible rfl
      rotate_left
      ·simp only [Act.put,setIfInBounds_toArray,set_cons_zero,set_cons_succ,i64_w,i32_w]
       rfl
      refine done_ (by kernel_rfl) ?_
      have hnb43 := NB250_236.out
      have hnc43 := NB236_250.out
      have hcz44_0 : w42.cell? ⟨gb250,0,none⟩ = some (.slice Ao23 t246.length co23) := (blk_cell BK250.out 0).trans rfl
      have hcz44_1 : w42.cell? ⟨gb250,1,none⟩ = some (.int .i64 t249) := (blk_cell BK250.out 1).trans rfl
      have hfz44_0 := blk_frozen BK250.out 0
      have hfz44_1 := blk_frozen BK250.out 1
      go_upto_region 14 with (first | ((with_reducible refine gate_callee (f:=10) rfl ?_); refine goesL_ (some 52) rfl rfl Tryd.func10 (by kernel_rfl) rfl #[.agg #[.slice Ao23 t246.length co23,.int .i64 t249],.int .i64 1] rfl mA ?_; (with_reducible refine (laws_markStore.calls kj11 (fun k_ => some k_ = (.slice Ao23 t246.length co23 : Value).ownBlock) (.slice Ao23 t246.length co23) t246 t249 1 t261 t262 w _ ?side1 ?side2 A37.out).mono ?_); (case side1 => exact bA); (case side2 => exact Kd.R_tight rfl HO_251000.out); rintro e w45 ⟨rfl,hy0,hb,hkp⟩; refine ⟨_,rfl,?_⟩; have n0_ := Aside0.mk (Kd.R_mono (ok' := fun k_ => some k_ ≠ (v252 : Value).ownBlock) (Kd.R_keptB ((Kd.R_apart' HO_6.out (Kd.R_typed HO_251000.out) (by decide))) hkp (fun k_ hk_ hs_ => (hk_.2) hs_)) (fun k_ hk_ => hk_.1.1)); have n1_ := Aside0.mk (Kd.R_mono (ok' := fun k_ => some k_ ≠ (v243 : Value).ownBlock) (Kd.R_keptB ((Kd.R_apart' HO_9.out (Kd.R_typed HO_251000.out) (by decide))) hkp (fun k_ hk_ hs_ => (hk_.2) hs_)) (fun k_ hk_ => hk_.1.1)); have n2_ := Aside0.mk (Kd.R_reok rfl hy0 (fun k_ e_ => HO_251000.out.1 k_ e_)); have n3_ := Aside0.mk (blk_kept (kA BK236.out) hkp (fun hs_ => (fun e_ => (Kd.R_ne HO_251000.out BK236.out (by decide)) e_) hs_)); have n4_ := Aside0.mk (blk_kept (kA BK250.out) hkp (fun hs_ => (fun e_ => (Kd.R_ne HO_251000.out BK250.out (by decide)) e_) hs_)); have n5_ := Aside0.mk (Kd.R_mono (ok' := fun k_ => some k_ ≠ (.slice Ao23 t246.length co23 : Value).ownBlock) (Kd.R_keptB (HO258.out) hkp (fun k_ hk_ hs_ => (hk_.2) hs_)) (fun k_ hk_ => hk_.1.2)); have n6_ := Aside0.mk (hb); clear HO_6; clear HO_9; clear HO_251000; clear BK236; clear BK250; clear HO258; clear HB; have HO_6 := n0_; have HO_9 := n1_; have HO_251000 := n2_; have BK236 := n3_; have BK250 := n4_; have HO258 := n5_; have HB := n6_; clear n0_ n1_ n2_ n3_ n4_ n5_ n6_; (try clear hb); (try clear hkp); (try clear hy0)))
      (try simp only [Act.put,setIfInBounds_toArray,set_cons_zero,set_cons_succ])
      go_cut [65] (fun v65 wc => ∃ (kq : Nat) (x65_37 : Bool),v65 = .bool x65_37 ∧ Aside0 (laws_FnExactPinsAt.j1 kq a1 t242 t245 t251 x65_37 l0_0 a0_1 = some r) ∧ Aside0 (kq ≤ kj11) ∧ Aside0 (Kd.R Kd.string 9 wc w.heap.size (fun k_ => some k_ ≠ (v252 : Value).ownBlock) v243 t242) ∧ Aside0 (Kd.R Kd.string 9 wc w.heap.size (fun k_ => some k_ ≠ (v243 : Value).ownBlock) v252 t251) ∧ Aside0 (Kd.R k51 51 wc w.heap.size (fun _ => True) (.slice Ao23 t246.length co23) t262) ∧ Aside0 (wc.heap[gb236]? = some (.cells #[(.slice A0_0 l0_0.length c0_0),.int .i64 a0_1] 24 (0,0))) ∧ Aside0 (wc.heap[gb250]? = some (.cells #[(.slice Ao23 t246.length co23),.int .i64 t249] 31 (0,0))) ∧ Aside0 (Below w.heap.size w wc))
      case first =>
       have H := HC38.out
       clear HC38
       by_cases c46 : t261 < 0
       ·rw [if_pos c46] at H
        have c46b0 : decide (t261 < 0) = true := decide_eq_true c46
        clear c46
        (first | rw [c46b0] | (simp only [i64_w,i32_w]; rw [c46b0]) | skip)
        have H' := Aside0.mk H
        clear H
        go_wp2
        go_meet
        case rel => exact ⟨_,(true),(by first | rfl | (simp; done) | (simp [*]; done)),H',⟨by have := HJ11.out; first | omega | exact Nat.le_refl _⟩,⟨rA HO_6.out⟩,⟨rA HO_9.out⟩,⟨by (with_reducible repeat (first | apply Kd.R_alloc | apply Kd.R_drewN | apply Kd.R_drew)); exact Kd.R_mono HO_251000.out (fun _ hk => trivial)⟩,⟨kA BK236.out⟩,⟨kA BK250.out⟩,⟨bA⟩⟩
       ·rw [if_neg c46] at H
        have c46b0 : decide (t261 < 0) = false := decide_eq_false c46
        clear c46
        (first | rw [c46b0] | (simp only [i64_w,i32_w]; rw [c46b0]) | skip)
        replace H := Option.bind_eq_some_iff.mp H
        obtain ⟨t263,A470,H⟩ := H
        try dsimp only at H
        have A47 := Aside0.mk A470
        clear A470
        by_cases c48 : t263 = true
        ·subst c48
         rw [if_pos rfl] at H
         have H' := Aside0.mk H
         clear H
         obtain ⟨Ao49,co49,eo49⟩ := Kd.R_slice HO_9.out
         subst eo49
         obtain ⟨Ao50,co50,eo50⟩ := Kd.R_slice HO_6.out
         subst eo50
         go_wp2_with (first | (go_at_call 8; (with_reducible refine (laws_eqStringS.calls kj11 _ _ t251 _ _ t242 true _ ?side1 ?side2 ?side3 ?side4 A47.out).mono ?_); (case side1 => repeat (first | exact (Kd.R_reads' HO_9.out).2.2 | (with_reducible refine Kd.C_alloc ?_ _) | (with_reducible refine Kd.C_drewN ?_ _) | (with_reducible refine Kd.C_drew ?_))); (case side2 => exact (Kd.R_reads' HO_9.out).2.1); (case side3 => repeat (first | exact (Kd.R_reads' HO_6.out).2.2 | (with_reducible refine Kd.C_alloc ?_ _) | (with_reducible refine Kd.C_drewN ?_ _) | (with_reducible refine Kd.C_drew ?_))); (case side4 => exact (Kd.R_reads' HO_6.out).2.1); rintro e w' ⟨rfl,⟨nd,rfl⟩⟩))
         go_meet
         case rel => exact ⟨_,((t254 != t245)),(by first | rfl | (simp; done) | (simp [*]; done)),H',⟨by have := HJ11.out; first | omega | exact Nat.le_refl _⟩,⟨rA HO_6.out⟩,⟨rA HO_9.out⟩,⟨by (with_reducible repeat (first | apply Kd.R_alloc | apply Kd.R_drewN | apply Kd.R_drew)); exact Kd.R_mono HO_251000.out (fun _ hk => trivial)⟩,⟨kA BK236.out⟩,⟨kA BK250.out⟩,⟨bA⟩⟩
        ·replace c48 := Bool.eq_false_iff.mpr c48
         subst c48
         rw [if_neg (show ¬ (false = true) by decide)] at H
         have H' := Aside0.mk H
         clear H
         obtain ⟨Ao51,co51,eo51⟩ := Kd.R_slice HO_9.out
         subst eo51
         obtain ⟨Ao52,co52,eo52⟩ := Kd.R_slice HO_6.out
         subst eo52
         go_wp2_with (first | (go_at_call 8; (with_reducible refine (laws_eqStringS.calls kj11 _ _ t251 _ _ t242 false _ ?side1 ?side2 ?side3 ?side4 A47.out).mono ?_); (case side1 => repeat (first | exact (Kd.R_reads' HO_9.out).2.2 | (with_reducible refine Kd.C_alloc ?_ _) | (with_reducible refine Kd.C_drewN ?_ _) | (with_reducible refine Kd.C_drew ?_))); (case side2 => exact (Kd.R_reads' HO_9.out).2.1); (case side3 => repeat (first | exact (Kd.R_reads' HO_6.out).2.2 | (with_reducible refine Kd.C_alloc ?_ _) | (with_reducible refine Kd.C_drewN ?_ _) | (with_reducible refine Kd.C_drew ?_))); (case side4 => exact (Kd.R_reads' HO_6.out).2.1); rintro e w' ⟨rfl,⟨nd,rfl⟩⟩))
         go_meet
         case rel => exact ⟨_,(true),(by first | rfl | (simp; done) | (simp [*]; done)),H',⟨by have := HJ11.out; first | omega | exact Nat.le_refl _⟩,⟨rA HO_6.out⟩,⟨rA HO_9.out⟩,⟨by (with_reducible repeat (first | apply Kd.R_alloc | apply Kd.R_drewN | apply Kd.R_drew)); exact Kd.R_mono HO_251000.out (fun _ hk => trivial)⟩,⟨kA BK236.out⟩,⟨kA BK250.out⟩,⟨bA⟩⟩
      case rest =>
       clear HC38
       try clear c1
       try clear c2
       try clear p2
       try clear c3
       try clear c4
       try clear c4b0
       try clear c5
       try clear c6
       try clear c7
       try clear c8
       try clear c9
       try clear c10
       try clear c24
       try clear c28
       try clear c33
       try clear c36
       try clear c43
       try clear c46
       try clear c46b0
       try clear c48
       try clear hcz14_0
       try clear hcz14_1
       try clear hcz16_0
       try clear hcz16_1
       try clear hcz20_0
       try clear hcz20_1
       try clear hcz25_0
       try clear hcz25_1
       try clear hcz44_0
       try clear hcz44_1
       try clear hcz6_0
       try clear hcz6_1
       try clear hfz14_0
       try clear hfz14_1
       try clear hfz16_0
       try clear hfz16_1
       try clear hfz20_0
       try clear hfz20_1
       try clear hfz25_0
       try clear hfz25_1
       try clear hfz44_0
       try clear hfz44_1
       try clear hfz6_0
       try clear hfz6_1
       try clear p2
       obtain ⟨kq,x65_37,rfl,HA,HJ37,HO_6,HO_9,HO_251000,BK236,BK250,HB⟩ := hcut
       have hl251000_37 := (Kd.R_reads' HO_251000.out).1
       rw [hl251000_37] at HO_251000
       (try simp only [hl251000_37])
       (try simp only [hl251000_37] at BK236)
       (try simp only [hl251000_37] at BK250)
       (try simp only [hl251000_37] at HO_6)
       (try simp only [hl251000_37] at HO_9)
       cases kq with
       | zero => exact absurd HA.out (by simp [laws_FnExactPinsAt.j1])
       | succ kj37 =>
        have H := HA.out
        clear HA
        simp only [laws_FnExactPinsAt.j1] at H
        by_cases c53 : x65_37 = true
        ·subst c53
         rw [if_pos rfl] at H
         exact absurd H (by simp)
        ·replace c53 := Bool.eq_false_iff.mpr c53
         subst c53
         rw [if_neg (show ¬ (false = true) by decide)] at H
         replace H := Option.bind_eq_some_iff.mp H
         obtain ⟨⟨t264,t265⟩,A540,H⟩ := H
         try dsimp only at H
         have A54 := Aside0.mk A540
         clear A540
         replace H := Option.bind_eq_some_iff.mp H
         obtain ⟨t266,A550,H⟩ := H
         try dsimp only at H
         have A55 := Aside0.mk A550
         clear A550
         by_cases c56 : t266 < 0
         ·rw [if_pos c56] at H
          exact absurd H (by simp)
         ·rw [if_neg c56] at H
          have c56b0 : decide (t266 < 0) = false := decide_eq_false c56
          clear c56
          by_cases c57 : t266 = t264
          ·rw [if_pos c57] at H
           have c57b0 : (t266 == t264) = true := beq_iff_eq.mpr c57
           have c57b1 : (t266 != t264) = false := bne_eq_false_iff_eq.mpr c57
           clear c57
           replace H := Option.bind_eq_some_iff.mp H
           obtain ⟨⟨t267,t270⟩,A580,H⟩ := H
           try dsimp only at H
           have A58 := Aside0.mk A580
           clear A580
           replace H := Option.bind_eq_some_iff.mp H
           obtain ⟨⟨t271,t274⟩,A590,H⟩ := H
           try dsimp only at H
           have A59 := Aside0.mk A590
           clear A590
           have HC60 := Aside0.mk H
           clear H
           obtain ⟨Ao61,co61,eo61⟩ := Kd.R_slice HO_9.out
           subst eo61
           go_upto_region 25 with (first | ((with_reducible refine gate_callee (f:=11) rfl ?_); refine goesL_ (some 68) rfl rfl Tryd.func11 (by kernel_rfl) rfl #[.slice Ao61 t251.length co61,.int .i64 1] rfl mA ?_; (with_reducible refine (laws_markStringS.calls kj37 (fun k_ => some k_ = (.slice Ao61 t251.length co61 : Value).ownBlock) (.slice Ao61 t251.length co61) t251 1 t264 t265 w _ ?side1 ?side2 A54.out).mono ?_); (case side1 => exact bA); (case side2 => exact Kd.R_tight rfl HO_9.out); rintro e w62 ⟨rfl,hy0,hb,hkp⟩; refine ⟨_,rfl,?_⟩; have n0_ := Aside0.mk (Kd.R_mono (ok' := fun k_ => some k_ ≠ (.slice Ao61 t251.length co61 : Value).ownBlock) (Kd.R_keptB (HO_6.out) hkp (fun k_ hk_ hs_ => (hk_) hs_)) (fun k_ hk_ => hk_.1)); have n1_ := Aside0.mk (Kd.R_reok rfl hy0 (fun k_ e_ => HO_9.out.1 k_ e_)); have n2_ := Aside0.mk (Kd.R_mono (ok' := fun k_ => True) (Kd.R_keptB ((Kd.R_apart' HO_251000.out (Kd.R_typed HO_9.out) (by decide))) hkp (fun k_ hk_ hs_ => (hk_.2) hs_)) (fun k_ hk_ => trivial)); have n3_ := Aside0.mk (blk_kept (kA BK236.out) hkp (fun hs_ => (fun e_ => (Kd.R_ne HO_9.out BK236.out (by decide)) e_) hs_)); have n4_ := Aside0.mk (blk_kept (kA BK250.out) hkp (fun hs_ => (fun e_ => (Kd.R_ne HO_9.out BK250.out (by decide)) e_) hs_)); have n5_ := Aside0.mk (hb); clear HO_6; clear HO_9; clear HO_251000; clear BK236; clear BK250; clear HB; have HO_6 := n0_; have HO_9 := n1_; have HO_251000 := n2_; have BK236 := n3_; have BK250 := n4_; have HB := n5_; clear n0_ n1_ n2_ n3_ n4_ n5_; (try clear hb); (try clear hkp); (try clear hy0)) | ((with_reducible refine gate_callee (f:=12) rfl ?_); refine goesL_ (some 71) rfl rfl Tryd.func12 (by kernel_rfl) rfl #[.slice Ao61 t265.length co61,.int .i64 1] rfl (by (try simp only [List.map_toArray,List.map_cons,List.map_nil]); first | done | (rw [show t265.length = t251.length from (Kd.R_reads' HO_9.out).1.symm] <;> rfl) | rfl | (simp only [List.length_drop,List.length_take]; rfl)) ?_; (with_reducible refine (laws_heldStringS.calls kj37 _ _ t265 1 t266 _ ?side1 ?side2 A55.out).mono ?_); (case side1 => repeat (first | exact (Kd.R_reads' HO_9.out).2.2 | (with_reducible refine Kd.C_alloc ?_ _) | (with_reducible refine Kd.C_drewN ?_ _) | (with_reducible refine Kd.C_drew ?_))); (case side2 => rw [show t265.length = t251.length from (Kd.R_reads' HO_9.out).1.symm]; exact (Kd.R_reads' HO_9.out).2.1); rintro e w63 ⟨rfl,hb⟩; refine ⟨_,rfl,?_⟩; have n0_ := Aside0.mk (Kd.R_below (rA HO_6.out) hb); have n1_ := Aside0.mk (Kd.R_below (rA HO_9.out) hb); have n2_ := Aside0.mk (Kd.R_below (rA HO_251000.out) hb); have n3_ := Aside0.mk (blk_below (g:=gb236) (o:=.cells #[.slice A0_0 l0_0.length c0_0,.int .i64 a0_1] 24 (0,0)) (kA BK236.out) hb); have n4_ := Aside0.mk (blk_below (g:=gb250) (o:=.cells #[.slice Ao23 t262.length co23,.int .i64 t249] 31 (0,0)) (kA BK250.out) hb); have n5_ := Aside0.mk (below_step bA hb); clear HO_6; clear HO_9; clear HO_251000; clear BK236; clear BK250; clear HB; have HO_6 := n0_; have HO_9 := n1_; have HO_251000 := n2_; have BK236 := n3_; have BK250 := n4_; have HB := n5_; clear n0_ n1_ n2_ n3_ n4_ n5_; (try clear hb); (try clear hb2); (try clear hk); (try clear hi); have hnb64 := NB236_250.out; have hnc64 := NB250_236.out; have hcz65_0 : w63.cell? ⟨gb236,0,none⟩ = some (.slice A0_0 l0_0.length c0_0) := (blk_cell BK236.out 0).trans rfl; have hcz65_1 : w63.cell? ⟨gb236,1,none⟩ = some (.int .i64 a0_1) := (blk_cell BK236.out 1).trans rfl; have hfz65_0 := blk_frozen BK236.out 0; have hfz65_1 := blk_frozen BK236.out 1) | ((with_reducible refine gate_callee (f:=6) rfl ?_); refine goesL_ (some 79) rfl rfl Tryd.func6 (by kernel_rfl) rfl #[.agg #[.slice A0_0 l0_0.length c0_0,.int .i64 a0_1]] rfl mA ?_; (with_reducible refine (laws_toStore.calls kj37 _ _ l0_0 a0_1 t267 t270 _ ?side1 ?side2 A58.out).mono ?_); (case side1 => repeat (first | exact (Kd.C_below HR0_0.out HB.out) | (with_reducible refine Kd.C_alloc ?_ _) | (with_reducible refine Kd.C_drewN ?_ _) | (with_reducible refine Kd.C_drew ?_))); (case side2 => exact HC0_0.out); rintro e w66 ⟨v268,rfl,ho0,hb⟩; refine ⟨_,rfl,?_⟩; have n0_ := Aside0.mk (Kd.R_below (rA HO_6.out) hb); have n1_ := Aside0.mk (Kd.R_below (rA HO_9.out) hb); have n2_ := Aside0.mk (Kd.R_elder' (rA HO_251000.out) (Kd.R_base ho0) hb); have n3_ := Aside0.mk (Kd.R_lower (Kd.R_new' ho0 (Kd.R_lt (rA HO_251000.out))) (below_size bA)); have n4_ := Aside0.mk (blk_below (g:=gb236) (o:=.cells #[.slice A0_0 l0_0.length c0_0,.int .i64 a0_1] 24 (0,0)) (kA BK236.out) hb); have n5_ := Aside0.mk (blk_below (g:=gb250) (o:=.cells #[.slice Ao23 t262.length co23,.int .i64 t249] 31 (0,0)) (kA BK250.out) hb); have n6_ := Aside0.mk (below_step bA hb); clear HO_6; clear HO_9; clear HO_251000; clear BK236; clear BK250; clear HB; have HO_6 := n0_; have HO_9 := n1_; have HO_251000 := n2_; have HO269 := n3_; have BK236 := n4_; have BK250 := n5_; have HB := n6_; clear n0_ n1_ n2_ n3_ n4_ n5_ n6_; (try clear hb); (try clear hb2); (try clear hk); (try clear hi); (try clear ho0); obtain ⟨Ao67,co67,eo67⟩ := Kd.R_slice HO269.out; subst eo67) | ((with_reducible refine gate_callee (f:=7) rfl ?_); refine goesL_ (some 81) rfl rfl Tryd.func7 (by kernel_rfl) rfl #[.agg #[.slice Ao67 t267.length co67,.int .i64 t270],.int .i64 a1] rfl mA ?_; (with_reducible refine (impl_PinsAt.calls kj37 _ _ t267 t270 a1 t271 t274 _ ?side1 ?side2 ?side3 A59.out).mono ?_); (case side1 => exact HV.out.below bA); (case side2 => repeat (first | exact (Kd.R_reads' HO269.out).2.2 | (with_reducible refine Kd.C_alloc ?_ _) | (with_reducible refine Kd.C_drewN ?_ _) | (with_reducible refine Kd.C_drew ?_))); (case side3 => exact (Kd.R_reads' HO269.out).2.1); rintro e w68 ⟨v272,rfl,ho0,hb⟩; refine ⟨_,rfl,?_⟩; have n0_ := Aside0.mk (Kd.R_elder' (rA HO_6.out) (Kd.R_base ho0) hb); have n1_ := Aside0.mk (Kd.R_elder' (rA HO_9.out) (Kd.R_base ho0) hb); have n2_ := Aside0.mk (Kd.R_below (rA HO_251000.out) hb); have n3_ := Aside0.mk (Kd.R_below (rA HO269.out) hb); have n4_ := Aside0.mk (Kd.R_lower (Kd.R_new' (Kd.R_new' ho0 (Kd.R_lt (rA HO_6.out))) (Kd.R_lt (rA HO_9.out))) (below_size bA)); have n5_ := Aside0.mk (blk_below (g:=gb236) (o:=.cells #[.slice A0_0 l0_0.length c0_0,.int .i64 a0_1] 24 (0,0)) (kA BK236.out) hb); have n6_ := Aside0.mk (blk_below (g:=gb250) (o:=.cells #[.slice Ao23 t262.length co23,.int .i64 t249] 31 (0,0)) (kA BK250.out) hb); have n7_ := Aside0.mk (below_step bA hb); clear HO_6; clear HO_9; clear HO_251000; clear HO269; clear BK236; clear BK250; clear HB; have HO_6 := n0_; have HO_9 := n1_; have HO_251000 := n2_; have HO269 := n3_; have HO273 := n4_; have BK236 := n5_; have BK250 := n6_; have HB := n7_; clear n0_ n1_ n2_ n3_ n4_ n5_ n6_ n7_; (try clear hb); (try clear hb2); (try clear hk); (try clear hi); (try clear ho0)))
           (try simp only [Act.put,setIfInBounds_toArray,set_cons_zero,set_cons_succ])
           go_cut [92] (fun v92 wc => ∃ (kq : Nat) (x92_59 : Bool),v92 = .bool x92_59 ∧ Aside0 (laws_FnExactPinsAt.j2 kq t265 t264 x92_59 = some r) ∧ Aside0 (kq ≤ kj37) ∧ Aside0 (Kd.R Kd.string 9 wc w.heap.size (fun _ => True) (.slice Ao61 t251.length co61) t265) ∧ Aside0 (Kd.R k51 51 wc w.heap.size (fun _ => True) (.slice Ao23 t262.length co23) t262) ∧ Aside0 (wc.heap[gb236]? = some (.cells #[(.slice A0_0 l0_0.length c0_0),.int .i64 a0_1] 24 (0,0))) ∧ Aside0 (wc.heap[gb250]? = some (.cells #[(.slice Ao23 t262.length co23),.int .i64 t249] 31 (0,0))) ∧ Aside0 (Below w.heap.size w wc))
           case first =>
            have H := HC60.out
            clear HC60
            replace H := Option.bind_eq_some_iff.mp H
            obtain ⟨t275,A690,H⟩ := H
            try dsimp only at H
            have A69 := Aside0.mk A690
            clear A690
            by_cases c70 : t275 = true
            ·subst c70
             rw [if_pos rfl] at H
             have H' := Aside0.mk H
             clear H
             obtain ⟨Ao71,co71,eo71⟩ := Kd.R_slice HO273.out
             subst eo71
             obtain ⟨Ao72,co72,eo72⟩ := Kd.R_slice HO_6.out
             subst eo72
             go_wp2_with (first | ((with_reducible refine gate_callee (f:=8) rfl ?_); refine goesL_ (some 86) rfl rfl Tryd.func8 (by kernel_rfl) rfl #[.slice Ao71 t271.length co71,.slice Ao72 t242.length co72] rfl mA ?_; (with_reducible refine (laws_eqStringS.calls kj37 _ _ t271 _ _ t242 true _ ?side1 ?side2 ?side3 ?side4 A69.out).mono ?_); (case side1 => repeat (first | exact (Kd.R_reads' HO273.out).2.2 | (with_reducible refine Kd.C_alloc ?_ _) | (with_reducible refine Kd.C_drewN ?_ _) | (with_reducible refine Kd.C_drew ?_))); (case side2 => exact (Kd.R_reads' HO273.out).2.1); (case side3 => repeat (first | exact (Kd.R_reads' HO_6.out).2.2 | (with_reducible refine Kd.C_alloc ?_ _) | (with_reducible refine Kd.C_drewN ?_ _) | (with_reducible refine Kd.C_drew ?_))); (case side4 => exact (Kd.R_reads' HO_6.out).2.1); rintro e w' ⟨rfl,⟨nd,rfl⟩⟩; refine ⟨_,rfl,?_⟩))
             go_meet
             case rel => exact ⟨_,((t274 != t245)),(by first | rfl | (simp; done) | (simp [*]; done)),H',⟨by have := HJ11.out; have := HJ37.out; first | omega | exact Nat.le_refl _⟩,⟨by (try simp only [hl251000_37]); (with_reducible repeat (first | apply Kd.R_alloc | apply Kd.R_drewN | apply Kd.R_drew)); exact Kd.R_mono HO_9.out (fun _ hk => trivial)⟩,⟨by (try simp only [hl251000_37]); (with_reducible repeat (first | apply Kd.R_alloc | apply Kd.R_drewN | apply Kd.R_drew)); exact Kd.R_mono HO_251000.out (fun _ hk => trivial)⟩,⟨by (try simp only [hl251000_37]); (with_reducible repeat (first | refine blk_drewN ?_ _ | refine blk_drew ?_ | refine blk_alloc ?_ _)); exact BK236.out⟩,⟨by (try simp only [hl251000_37]); (with_reducible repeat (first | refine blk_drewN ?_ _ | refine blk_drew ?_ | refine blk_alloc ?_ _)); exact BK250.out⟩,⟨bA⟩⟩
            ·replace c70 := Bool.eq_false_iff.mpr c70
             subst c70
             rw [if_neg (show ¬ (false = true) by decide)] at H
             have H' := Aside0.mk H
             clear H
             obtain ⟨Ao73,co73,eo73⟩ := Kd.R_slice HO273.out
             subst eo73
             obtain ⟨Ao74,co74,eo74⟩ := Kd.R_slice HO_6.out
             subst eo74
             go_wp2_with (first | ((with_reducible refine gate_callee (f:=8) rfl ?_); refine goesL_ (some 86) rfl rfl Tryd.func8 (by kernel_rfl) rfl #[.slice Ao73 t271.length co73,.slice Ao74 t242.length co74] rfl mA ?_; (with_reducible refine (laws_eqStringS.calls kj37 _ _ t271 _ _ t242 false _ ?side1 ?side2 ?side3 ?side4 A69.out).mono ?_); (case side1 => repeat (first | exact (Kd.R_reads' HO273.out).2.2 | (with_reducible refine Kd.C_alloc ?_ _) | (with_reducible refine Kd.C_drewN ?_ _) | (with_reducible refine Kd.C_drew ?_))); (case side2 => exact (Kd.R_reads' HO273.out).2.1); (case side3 => repeat (first | exact (Kd.R_reads' HO_6.out).2.2 | (with_reducible refine Kd.C_alloc ?_ _) | (with_reducible refine Kd.C_drewN ?_ _) | (with_reducible refine Kd.C_drew ?_))); (case side4 => exact (Kd.R_reads' HO_6.out).2.1); rintro e w' ⟨rfl,⟨nd,rfl⟩⟩; refine ⟨_,rfl,?_⟩))
             go_meet
             case rel => exact ⟨_,(true),(by first | rfl | (simp; done) | (simp [*]; done)),H',⟨by have := HJ11.out; have := HJ37.out; first | omega | exact Nat.le_refl _⟩,⟨by (try simp only [hl251000_37]); (with_reducible repeat (first | apply Kd.R_alloc | apply Kd.R_drewN | apply Kd.R_drew)); exact Kd.R_mono HO_9.out (fun _ hk => trivial)⟩,⟨by (try simp only [hl251000_37]); (with_reducible repeat (first | apply Kd.R_alloc | apply Kd.R_drewN | apply Kd.R_drew)); exact Kd.R_mono HO_251000.out (fun _ hk => trivial)⟩,⟨by (try simp only [hl251000_37]); (with_reducible repeat (first | refine blk_drewN ?_ _ | refine blk_drew ?_ | refine blk_alloc ?_ _)); exact BK236.out⟩,⟨by (try simp only [hl251000_37]); (with_reducible repeat (first | refine blk_drewN ?_ _ | refine blk_drew ?_ | refine blk_alloc ?_ _)); exact BK250.out⟩,⟨bA⟩⟩
           case rest =>
            clear HC60
            try clear c1
            try clear c2
            try clear p2
            try clear c3
            try clear c4
            try clear c4b0
            try clear c5
            try clear c6
            try clear c7
            try clear c8
            try clear c9
            try clear c10
            try clear c11
            try clear c12
            try clear c24
            try clear c28
            try clear c33
            try clear c36
            try clear c43
            try clear c46
            try clear c46b0
            try clear c48
            try clear c53
            try clear c56
            try clear c56b0
            try clear c57
            try clear c57b0
            try clear c57b1
            try clear c64
            try clear c70
            try clear hcz14_0
            try clear hcz14_1
            try clear hcz16_0
            try clear hcz16_1
            try clear hcz20_0
            try clear hcz20_1
            try clear hcz25_0
            try clear hcz25_1
            try clear hcz44_0
            try clear hcz44_1
            try clear hcz65_0
            try clear hcz65_1
            try clear hcz6_0
            try clear hcz6_1
            try clear hfz14_0
            try clear hfz14_1
            try clear hfz16_0
            try clear hfz16_1
            try clear hfz20_0
            try clear hfz20_1
            try clear hfz25_0
            try clear hfz25_1
            try clear hfz44_0
            try clear hfz44_1
            try clear hfz65_0
            try clear hfz65_1
            try clear hfz6_0
            try clear hfz6_1
            try clear p2
            obtain ⟨kq,x92_59,rfl,HA,HJ59,HO_9,HO_251000,BK236,BK250,HB⟩ := hcut
            have hl9_59 := (Kd.R_reads' HO_9.out).1
            rw [hl9_59] at HO_9
            (try simp only [hl9_59])
            (try simp only [hl9_59] at BK236)
            (try simp only [hl9_59] at BK250)
            (try simp only [hl9_59] at HO_251000)
            cases kq with
            | zero => exact absurd HA.out (by simp [laws_FnExactPinsAt.j2])
            | succ kj59 =>
             have H := HA.out
             clear HA
             simp only [laws_FnExactPinsAt.j2] at H
             by_cases c75 : x92_59 = true
             ·subst c75
              rw [if_pos rfl] at H
              exact absurd H (by simp)
             ·replace c75 := Bool.eq_false_iff.mpr c75
              subst c75
              rw [if_neg (show ¬ (false = true) by decide)] at H
              replace H := Option.bind_eq_some_iff.mp H
              obtain ⟨t276,A760,H⟩ := H
              try dsimp only at H
              have A76 := Aside0.mk A760
              clear A760
              by_cases c77 : t276 < 0
              ·rw [if_pos c77] at H
               exact absurd H (by simp)
              ·rw [if_neg c77] at H
               have c77b0 : decide (t276 < 0) = false := decide_eq_false c77
               clear c77
               by_cases c78 : t276 = t264
               ·rw [if_pos c78] at H
                have c78b0 : (t276 == t264) = true := beq_iff_eq.mpr c78
                have c78b1 : (t276 != t264) = false := bne_eq_false_iff_eq.mpr c78
                clear c78
                obtain rfl := Option.some.inj H
                go_wp2_with (first | ((with_reducible refine gate_callee (f:=12) rfl ?_); refine goesL_ (some 95) rfl rfl Tryd.func12 (by kernel_rfl) rfl #[.slice Ao61 t265.length co61,.int .i64 1] rfl mA ?_; (with_reducible refine (laws_heldStringS.calls kj59 _ _ t265 1 t276 _ ?side1 ?side2 A76.out).mono ?_); (case side1 => repeat (first | exact (Kd.R_reads' HO_9.out).2.2 | (with_reducible refine Kd.C_alloc ?_ _) | (with_reducible refine Kd.C_drewN ?_ _) | (with_reducible refine Kd.C_drew ?_))); (case side2 => exact (Kd.R_reads' HO_9.out).2.1); rintro e w79 ⟨rfl,hb⟩; refine ⟨_,rfl,?_⟩; have n0_ := Aside0.mk (Kd.R_below (rA HO_9.out) hb); have n1_ := Aside0.mk (Kd.R_below (rA HO_251000.out) hb); have n2_ := Aside0.mk (blk_below (g:=gb236) (o:=.cells #[.slice A0_0 l0_0.length c0_0,.int .i64 a0_1] 24 (0,0)) (kA BK236.out) hb); have n3_ := Aside0.mk (blk_below (g:=gb250) (o:=.cells #[.slice Ao23 t262.length co23,.int .i64 t249] 31 (0,0)) (kA BK250.out) hb); have n4_ := Aside0.mk (below_step bA hb); clear HO_9; clear HO_251000; clear BK236; clear BK250; clear HB; have HO_9 := n0_; have HO_251000 := n1_; have BK236 := n2_; have BK250 := n3_; have HB := n4_; clear n0_ n1_ n2_ n3_ n4_; (try clear hb); (try clear hb2); (try clear hk); (try clear hi)))
                go_ret
                exact ⟨by first | rfl | (simp [errW_none,errW_some] <;> rfl) | (simp [*,errW_none,errW_some] <;> rfl),bA⟩
               ·rw [if_neg c78] at H
                exact absurd H (by simp)
          ·rw [if_neg c57] at H
           exact absurd H (by simp)
     ·replace c36 := Bool.eq_false_iff.mpr c36
      subst c36
      rw [if_neg (show ¬ (false = true) by decide)] at H
      exact absurd H (by simp)

end Go.Proofs.YtbodkbaniebfaaaDoor.XFnExactPinsAt
