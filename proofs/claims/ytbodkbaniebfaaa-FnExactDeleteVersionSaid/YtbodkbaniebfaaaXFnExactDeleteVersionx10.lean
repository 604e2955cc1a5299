-- Printed by this session's own program wip/tools/xprint.py, which widens the kit's print. Not trusted: Lean checks it.
import Derived.Test.YtbodkbaniebfaaaXFnExactDeleteVersionx0
import Derived.Test.YtbodkbaniebfaaaXFnExactDeleteVersionx1
import Derived.Test.YtbodkbaniebfaaaXFnExactDeleteVersionx3
import Derived.Test.YtbodkbaniebfaaaXFnExactDeleteVersionx4
import Derived.Test.YtbodkbaniebfaaaXFnExactDeleteVersionx7
import Derived.Test.YtbodkbaniebfaaaXFnExactDeleteVersionx8
import Derived.Test.YtbodkbaniebfaaaXFnExactDeleteVersionx9
namespace Go.Proofs.Ytbodkbaniebfaaa.XFnExactDeleteVersion
open List (setIfInBounds_toArray set_cons_zero set_cons_succ)
open Go.RowKit Go.Proofs.YtbodkbaniebfaaaW.PrintWords Go.Proofs.YtbodkbaniebfaaaW.PrintLast Go.Proofs.YtbodkbaniebfaaaW.PrintMore
attribute [local go_sem] max2_int min2_int max_two min_two max_three min_three max_four min_four   -- for this text's walks alone
set_option linter.unusedVariables false
set_option linter.unusedSimpArgs false

/-! ### laws_FnExactDeleteVersion: function 3 -/
mutual
def laws_FnExactDeleteVersion.j0 : Nat → ByteArray → Int → Int → Int → Bool → List (S70) → Int → List (S71) → Int → List (S71) → Int → List (S71) → Int → Option (Bool)
 | 0,_,_,_,_,_,_,_,_,_,_,_,_,_ => none
 | k + 1,x1,x2,x9,x12,x51,x264000,x264001,x275000,x275001,x280000,x280001,x286000,x286001 => if x51 = true then (none) else ((laws_toStore.f k x264000 x264001).bind fun bt287 => ((laws_eqStore.f k x280000 x280001 bt287.1 bt287.2).bind fun t291 => (if t291 = true then ((laws_markStore.f k x280000 x280001 1).bind fun bt292 => (if bt292.1 < 0 then (laws_FnExactDeleteVersion.j1 k x1 x2 x9 true x264000 x264001 x275000 x275001 x286000 x286001) else ((laws_eqStore.f k x286000 x286001 x275000 x275001).bind fun t294 => (if t294 = true then (laws_FnExactDeleteVersion.j1 k x1 x2 x9 (x12 != x9) x264000 x264001 x275000 x275001 x286000 x286001) else (laws_FnExactDeleteVersion.j1 k x1 x2 x9 true x264000 x264001 x275000 x275001 x286000 x286001))))) else (none))))
def laws_FnExactDeleteVersion.j1 : Nat → ByteArray → Int → Int → Bool → List (S70) → Int → List (S71) → Int → List (S71) → Int → Option (Bool)
 | 0,_,_,_,_,_,_,_,_,_,_ => none
 | k + 1,x1,x2,x9,x72,x264000,x264001,x275000,x275001,x286000,x286001 => if x72 = true then (none) else ((laws_markStore.f k x286000 x286001 1).bind fun bt295 => ((laws_heldStore.f k bt295.2 x286001 1).bind fun t297 => (if t297 < 0 then (none) else (if t297 = bt295.1 then ((laws_toStore.f k x264000 x264001).bind fun bt298 => ((impl_DeleteVersion.f k bt298.1 bt298.2 x1 x2).bind fun bt302 => ((laws_eqStore.f k bt302.1 bt302.2.1 x275000 x275001).bind fun t308 => (if t308 = true then (laws_FnExactDeleteVersion.j2 k bt295.1 (bt302.2.2 != x9) bt295.2 x286001) else (laws_FnExactDeleteVersion.j2 k bt295.1 true bt295.2 x286001))))) else (none)))))
def laws_FnExactDeleteVersion.j2 : Nat → Int → Bool → List (S71) → Int → Option (Bool)
 | 0,_,_,_,_ => none
 | k + 1,x14,x100,x286000,x286001 => if x100 = true then (none) else ((laws_heldStore.f k x286000 x286001 1).bind fun t309 => (if t309 < 0 then (none) else (if t309 = x14 then (some true) else (none))))
end
def laws_FnExactDeleteVersion.f (k : Nat) (l0_0 : List (S70)) (a0_1 : Int) (a1 : ByteArray) (a2 : Int) : Option (Bool) := if (a1.size : Int) > 1048576 then (some true) else ((laws_szStore.f k l0_0 a0_1 1048576).bind fun t264 => (if t264 < 0 then (some true) else ((laws_toStore.f k l0_0 a0_1).bind fun bt265 => ((spec_DeleteVersion.f k bt265.1 bt265.2 a1 a2).bind fun bt269 => ((laws_toStore.f k l0_0 a0_1).bind fun bt275 => ((impl_DeleteVersion.f k bt275.1 bt275.2 a1 a2).bind fun bt280 => ((laws_eqStore.f k bt280.1 bt280.2.1 bt269.1 bt269.2.1).bind fun t286 => (if t286 = true then (laws_FnExactDeleteVersion.j0 k a1 a2 bt269.2.2 bt280.2.2 (bt280.2.2 != bt269.2.2) l0_0 a0_1 bt269.1 bt269.2.1 bt275.1 bt275.2 bt280.1 bt280.2.1) else (laws_FnExactDeleteVersion.j0 k a1 a2 bt269.2.2 bt280.2.2 true l0_0 a0_1 bt269.1 bt269.2.1 bt275.1 bt275.2 bt280.1 bt280.2.1)))))))))
theorem laws_FnExactDeleteVersion.mono_l : ∀ k,(∀ y0 y1 y2 y3 y4 y5 y6 y7 y8 y9 y10 y11 y12,LeO (laws_FnExactDeleteVersion.j0 k y0 y1 y2 y3 y4 y5 y6 y7 y8 y9 y10 y11 y12) (laws_FnExactDeleteVersion.j0 (k + 1) y0 y1 y2 y3 y4 y5 y6 y7 y8 y9 y10 y11 y12)) ∧ (∀ y0 y1 y2 y3 y4 y5 y6 y7 y8 y9,LeO (laws_FnExactDeleteVersion.j1 k y0 y1 y2 y3 y4 y5 y6 y7 y8 y9) (laws_FnExactDeleteVersion.j1 (k + 1) y0 y1 y2 y3 y4 y5 y6 y7 y8 y9)) ∧ (∀ y0 y1 y2 y3,LeO (laws_FnExactDeleteVersion.j2 k y0 y1 y2 y3) (laws_FnExactDeleteVersion.j2 (k + 1) y0 y1 y2 y3))
 | 0 => ⟨fun _ _ _ _ _ _ _ _ _ _ _ _ _ r h => by simp [laws_FnExactDeleteVersion.j0] at h,fun _ _ _ _ _ _ _ _ _ _ r h => by simp [laws_FnExactDeleteVersion.j1] at h,fun _ _ _ _ r h => by simp [laws_FnExactDeleteVersion.j2] at h⟩
 | k + 1 => by
  obtain ⟨ih0,ih1,ih2⟩ := laws_FnExactDeleteVersion.mono_l k
  refine ⟨?_,?_,?_⟩
  ·intro y0 y1 y2 y3 y4 y5 y6 y7 y8 y9 y10 y11 y12
   unfold laws_FnExactDeleteVersion.j0
   repeat' first
   | (with_reducible exact ih0 _ _ _ _ _ _ _ _ _ _ _ _ _)
   | (with_reducible exact ih1 _ _ _ _ _ _ _ _ _ _)
   | (with_reducible exact ih2 _ _ _ _)
   | (with_reducible exact impl_DeleteVersion.mono _ _ _ _ _)
   | (with_reducible exact laws_eqStore.mono _ _ _ _ _)
   | (with_reducible exact laws_heldStore.mono _ _ _ _)
   | (with_reducible exact laws_markStore.mono _ _ _ _)
   | (with_reducible exact laws_szStore.mono _ _ _ _)
   | (with_reducible exact laws_toStore.mono _ _ _)
   | (with_reducible exact spec_DeleteVersion.mono _ _ _ _ _)
   | (with_reducible exact LeO.refl _)
   | (with_reducible exact LeO.none _)
   | (with_reducible refine LeO.ite ?_ ?_)
   | (with_reducible refine LeO.bind ?_ (fun _ => ?_))
   | exact ih0 _ _ _ _ _ _ _ _ _ _ _ _ _
   | exact ih1 _ _ _ _ _ _ _ _ _ _
   | exact ih2 _ _ _ _
   | exact impl_DeleteVersion.mono _ _ _ _ _
   | exact laws_eqStore.mono _ _ _ _ _
   | exact laws_heldStore.mono _ _ _ _
   | exact laws_markStore.mono _ _ _ _
   | exact laws_szStore.mono _ _ _ _
   | exact laws_toStore.mono _ _ _
   | exact spec_DeleteVersion.mono _ _ _ _ _
   | exact LeO.none _
   | refine LeO.ite ?_ ?_
   | refine LeO.bind ?_ (fun _ => ?_)
  ·intro y0 y1 y2 y3 y4 y5 y6 y7 y8 y9
   unfold laws_FnExactDeleteVersion.j1
   repeat' first
   | (with_reducible exact ih0 _ _ _ _ _ _ _ _ _ _ _ _ _)
   | (with_reducible exact ih1 _ _ _ _ _ _ _ _ _ _)
   | (with_reducible exact ih2 _ _ _ _)
   | (with_reducible exact impl_DeleteVersion.mono _ _ _ _ _)
   | (with_reducible exact laws_eqStore.mono _ _ _ _ _)
   | (with_reducible exact laws_heldStore.mono _ _ _ _)
   | (with_reducible exact laws_markStore.mono _ _ _ _)
   | (with_reducible exact laws_szStore.mono _ _ _ _)
   | (with_reducible exact laws_toStore.mono _ _ _)
   | (with_reducible exact spec_DeleteVersion.mono _ _ _ _ _)
   | (with_reducible exact LeO.refl _)
   | (with_reducible exact LeO.none _)
   | (with_reducible refine LeO.ite ?_ ?_)
   | (with_reducible refine LeO.bind ?_ (fun _ => ?_))
   | exact ih0 _ _ _ _ _ _ _ _ _ _ _ _ _
   | exact ih1 _ _ _ _ _ _ _ _ _ _
   | exact ih2 _ _ _ _
   | exact impl_DeleteVersion.mono _ _ _ _ _
   | exact laws_eqStore.mono _ _ _ _ _
   | exact laws_heldStore.mono _ _ _ _
   | exact laws_markStore.mono _ _ _ _
   | exact laws_szStore.mono _ _ _ _
   | exact laws_toStore.mono _ _ _
   | exact spec_DeleteVersion.mono _ _ _ _ _
   | exact LeO.none _
   | refine LeO.ite ?_ ?_
   | refine LeO.bind ?_ (fun _ => ?_)
  ·intro y0 y1 y2 y3
   unfold laws_FnExactDeleteVersion.j2
   repeat' first
   | (with_reducible exact ih0 _ _ _ _ _ _ _ _ _ _ _ _ _)
   | (with_reducible exact ih1 _ _ _ _ _ _ _ _ _ _)
   | (with_reducible exact ih2 _ _ _ _)
   | (with_reducible exact impl_DeleteVersion.mono _ _ _ _ _)
   | (with_reducible exact laws_eqStore.mono _ _ _ _ _)
   | (with_reducible exact laws_heldStore.mono _ _ _ _)
   | (with_reducible exact laws_markStore.mono _ _ _ _)
   | (with_reducible exact laws_szStore.mono _ _ _ _)
   | (with_reducible exact laws_toStore.mono _ _ _)
   | (with_reducible exact spec_DeleteVersion.mono _ _ _ _ _)
   | (with_reducible exact LeO.refl _)
   | (with_reducible exact LeO.none _)
   | (with_reducible refine LeO.ite ?_ ?_)
   | (with_reducible refine LeO.bind ?_ (fun _ => ?_))
   | exact ih0 _ _ _ _ _ _ _ _ _ _ _ _ _
   | exact ih1 _ _ _ _ _ _ _ _ _ _
   | exact ih2 _ _ _ _
   | exact impl_DeleteVersion.mono _ _ _ _ _
   | exact laws_eqStore.mono _ _ _ _ _
   | exact laws_heldStore.mono _ _ _ _
   | exact laws_markStore.mono _ _ _ _
   | exact laws_szStore.mono _ _ _ _
   | exact laws_toStore.mono _ _ _
   | exact spec_DeleteVersion.mono _ _ _ _ _
   | exact LeO.none _
   | refine LeO.ite ?_ ?_
   | refine LeO.bind ?_ (fun _ => ?_)
theorem laws_FnExactDeleteVersion.mono : ∀ a0 a1 a2 a3 k,LeO (laws_FnExactDeleteVersion.f k a0 a1 a2 a3) (laws_FnExactDeleteVersion.f (k + 1) a0 a1 a2 a3) := by
 intro a0 a1 a2 a3 k
 obtain ⟨ih0,ih1,ih2⟩ := laws_FnExactDeleteVersion.mono_l k
 unfold laws_FnExactDeleteVersion.f
 repeat' first
   | (with_reducible exact ih0 _ _ _ _ _ _ _ _ _ _ _ _ _)
   | (with_reducible exact ih1 _ _ _ _ _ _ _ _ _ _)
   | (with_reducible exact ih2 _ _ _ _)
   | (with_reducible exact impl_DeleteVersion.mono _ _ _ _ _)
   | (with_reducible exact laws_eqStore.mono _ _ _ _ _)
   | (with_reducible exact laws_heldStore.mono _ _ _ _)
   | (with_reducible exact laws_markStore.mono _ _ _ _)
   | (with_reducible exact laws_szStore.mono _ _ _ _)
   | (with_reducible exact laws_toStore.mono _ _ _)
   | (with_reducible exact spec_DeleteVersion.mono _ _ _ _ _)
   | (with_reducible exact LeO.refl _)
   | (with_reducible exact LeO.none _)
   | (with_reducible refine LeO.ite ?_ ?_)
   | (with_reducible refine LeO.bind ?_ (fun _ => ?_))
   | exact ih0 _ _ _ _ _ _ _ _ _ _ _ _ _
   | exact ih1 _ _ _ _ _ _ _ _ _ _
   | exact ih2 _ _ _ _
   | exact impl_DeleteVersion.mono _ _ _ _ _
   | exact laws_eqStore.mono _ _ _ _ _
   | exact laws_heldStore.mono _ _ _ _
   | exact laws_markStore.mono _ _ _ _
   | exact laws_szStore.mono _ _ _ _
   | exact laws_toStore.mono _ _ _
   | exact spec_DeleteVersion.mono _ _ _ _ _
   | exact LeO.none _
   | refine LeO.ite ?_ ?_
   | refine LeO.bind ?_ (fun _ => ?_)
set_option maxHeartbeats 8000000 in
set_option maxRecDepth 100000 in
theorem laws_FnExactDeleteVersion.calls (k : Nat) (A0_0 : Option Addr) (c0_0 : Nat) (l0_0 : List (S70)) (a0_1 : Int) (a1 : ByteArray) (a2 : Int) (r : Bool) (w : World) (hr0_0 : Kd.C k70 w A0_0 l0_0.length l0_0) (hc0_0 : l0_0.length ≤ c0_0) (h : laws_FnExactDeleteVersion.f k l0_0 a0_1 a1 a2 = some r) :
  Calls Try.prog 3 #[.agg #[.slice A0_0 l0_0.length c0_0,.int .i64 a0_1],.string a1,.int .i64 a2] w fun e w' => e = .returned (.bool r) ∧ Below w.heap.size w w' := by
 have hu24 := Try.underlying24
 have hu28 := Try.underlying28
 have HR0_0 := Aside0.mk hr0_0
 have HC0_0 := Aside0.mk hc0_0
 clear hr0_0 hc0_0
 have HB := Aside0.mk (Below.refl w.heap.size w)
 have H : (if (a1.size : Int) > 1048576 then (some true) else ((laws_szStore.f k l0_0 a0_1 1048576).bind fun t264 => (if t264 < 0 then (some true) else ((laws_toStore.f k l0_0 a0_1).bind fun bt265 => ((spec_DeleteVersion.f k bt265.1 bt265.2 a1 a2).bind fun bt269 => ((laws_toStore.f k l0_0 a0_1).bind fun bt275 => ((impl_DeleteVersion.f k bt275.1 bt275.2 a1 a2).bind fun bt280 => ((laws_eqStore.f k bt280.1 bt280.2.1 bt269.1 bt269.2.1).bind fun t286 => (if t286 = true then (laws_FnExactDeleteVersion.j0 k a1 a2 bt269.2.2 bt280.2.2 (bt280.2.2 != bt269.2.2) l0_0 a0_1 bt269.1 bt269.2.1 bt275.1 bt275.2 bt280.1 bt280.2.1) else (laws_FnExactDeleteVersion.j0 k a1 a2 bt269.2.2 bt280.2.2 true l0_0 a0_1 bt269.1 bt269.2.1 bt275.1 bt275.2 bt280.1 bt280.2.1)))))))))) = some r := h
 clear h
 by_cases c4 : (a1.size : Int) > 1048576
 ·rw [if_pos c4] at H
  have c4b0 : decide (1048576 < (a1.size : Int)) = true := decide_eq_true c4
  have c4b1 : decide (1048576 < a1.size) = true := decide_eq_true (by omega)
  clear c4
  obtain rfl := Option.some.inj H
  go_enter Try.func3,Try.ntmps3
  go_wp2_with (first | ((with_reducible refine gate_dst (N:=3) rfl ?_); refine box_event ?hg (N:=3) ?hd (cs := #[.slice A0_0 l0_0.length c0_0,.int .i64 a0_1]) (t:=24) ?hr ?_; (case hd => rfl); (case hg => rfl); (case hr => first | (go_simp; done) | (go_simp; rfl)); intro gb263 hg w5 hbox hb; have n0_ := Aside0.mk (below_step bA hb); have n1_ := Aside0.mk (hbox); have n2_ := Aside0.mk ((by rw [hg]; exact (below_size bA) : w.heap.size ≤ gb263)); have n3_ := Aside0.mk ((by rw [hg]; exact (below_size bA) : w.heap.size ≤ gb263)); clear HB; have HB := n0_; have BK263 := n1_; have GW263 := n2_; have GE263 := n3_; clear n0_ n1_ n2_ n3_; clear hb hbox hg))
  go_ret
  exact ⟨by first | rfl | (simp [errW_none,errW_some] <;> rfl) | (simp [*,errW_none,errW_some] <;> rfl),bA⟩
 ·rw [if_neg c4] at H
  have c4b0 : decide (1048576 < (a1.size : Int)) = false := decide_eq_false c4
  have c4b1 : decide (1048576 < a1.size) = false := decide_eq_false (by omega)
  clear c4
  replace H := Option.bind_eq_some_iff.mp H
  obtain ⟨t264,A60,H⟩ := H
  try dsimp only at H
  have A6 := Aside0.mk A60
  clear A60
  by_cases c7 : t264 < 0
  ·rw [if_pos c7] at H
   have c7b0 : decide (t264 < 0) = true := decide_eq_true c7
   clear c7
   obtain rfl := Option.some.inj H
   go_enter Try.func3,Try.ntmps3
   go_wp2_with (first | ((with_reducible refine gate_dst (N:=3) rfl ?_); refine box_event ?hg (N:=3) ?hd (cs := #[.slice A0_0 l0_0.length c0_0,.int .i64 a0_1]) (t:=24) ?hr ?_; (case hd => rfl); (case hg => rfl); (case hr => first | (go_simp; done) | (go_simp; rfl)); intro gb263 hg w8 hbox hb; have n0_ := Aside0.mk (below_step bA hb); have n1_ := Aside0.mk (hbox); have n2_ := Aside0.mk ((by rw [hg]; exact (below_size bA) : w.heap.size ≤ gb263)); have n3_ := Aside0.mk ((by rw [hg]; exact (below_size bA) : w.heap.size ≤ gb263)); clear HB; have HB := n0_; have BK263 := n1_; have GW263 := n2_; have GE263 := n3_; clear n0_ n1_ n2_ n3_; clear hb hbox hg; have hcz9_0 : w8.cell? ⟨gb263,0,none⟩ = some (.slice A0_0 l0_0.length c0_0) := (blk_cell BK263.out 0).trans rfl; have hcz9_1 : w8.cell? ⟨gb263,1,none⟩ = some (.int .i64 a0_1) := (blk_cell BK263.out 1).trans rfl; have hfz9_0 := blk_frozen BK263.out 0; have hfz9_1 := blk_frozen BK263.out 1) | ((with_reducible refine gate_callee (f:=7) rfl ?_); refine goesL_ (some 23) rfl rfl Try.func7 (by kernel_rfl) rfl #[.agg #[.slice A0_0 l0_0.length c0_0,.int .i64 a0_1],.int .i64 1048576] rfl mA ?_; (with_reducible refine (laws_szStore.calls k _ _ l0_0 a0_1 1048576 t264 _ ?side1 ?side2 A6.out).mono ?_); (case side1 => repeat (first | exact (Kd.C_below HR0_0.out HB.out) | (with_reducible refine Kd.C_alloc ?_ _) | (with_reducible refine Kd.C_drewN ?_ _) | (with_reducible refine Kd.C_drew ?_))); (case side2 => exact HC0_0.out); rintro e w10 ⟨rfl,hb⟩; refine ⟨_,rfl,?_⟩; have n0_ := Aside0.mk (blk_below (g:=gb263) (o:=.cells #[.slice A0_0 l0_0.length c0_0,.int .i64 a0_1] 24 (0,0)) (kA BK263.out) hb); have n1_ := Aside0.mk (below_step bA hb); clear BK263; clear HB; have BK263 := n0_; have HB := n1_; clear n0_ n1_; (try clear hb); (try clear hb2); (try clear hk); (try clear hi)))
   go_ret
   exact ⟨by first | rfl | (simp [errW_none,errW_some] <;> rfl) | (simp [*,errW_none,errW_some] <;> rfl),bA⟩
  ·rw [if_neg c7] at H
   have c7b0 : decide (t264 < 0) = false := decide_eq_false c7
   clear c7
   replace H := Option.bind_eq_some_iff.mp H
   obtain ⟨⟨t265,t268⟩,A110,H⟩ := H
   try dsimp only at H
   have A11 := Aside0.mk A110
   clear A110
   replace H := Option.bind_eq_some_iff.mp H
   obtain ⟨⟨t269,t272,t273⟩,A120,H⟩ := H
   try dsimp only at H
   have A12 := Aside0.mk A120
   clear A120
   replace H := Option.bind_eq_some_iff.mp H
   obtain ⟨⟨t275,t278⟩,A130,H⟩ := H
   try dsimp only at H
   have A13 := Aside0.mk A130
   clear A130
   replace H := Option.bind_eq_some_iff.mp H
   obtain ⟨⟨t280,t283,t284⟩,A140,H⟩ := H
   try dsimp only at H
   have A14 := Aside0.mk A140
   clear A140
   have HC15 := Aside0.mk H
   clear H
   go_enter Try.func3,Try.ntmps3
   go_upto_region 10 with (first | ((with_reducible refine gate_dst (N:=3) rfl ?_); refine box_event ?hg (N:=3) ?hd (cs := #[.slice A0_0 l0_0.length c0_0,.int .i64 a0_1]) (t:=24) ?hr ?_; (case hd => rfl); (case hg => rfl); (case hr => first | (go_simp; done) | (go_simp; rfl)); intro gb263 hg w16 hbox hb; have n0_ := Aside0.mk (below_step bA hb); have n1_ := Aside0.mk (hbox); have n2_ := Aside0.mk ((by rw [hg]; exact (below_size bA) : w.heap.size ≤ gb263)); have n3_ := Aside0.mk ((by rw [hg]; exact (below_size bA) : w.heap.size ≤ gb263)); clear HB; have HB := n0_; have BK263 := n1_; have GW263 := n2_; have GE263 := n3_; clear n0_ n1_ n2_ n3_; clear hb hbox hg; have hcz17_0 : w16.cell? ⟨gb263,0,none⟩ = some (.slice A0_0 l0_0.length c0_0) := (blk_cell BK263.out 0).trans rfl; have hcz17_1 : w16.cell? ⟨gb263,1,none⟩ = some (.int .i64 a0_1) := (blk_cell BK263.out 1).trans rfl; have hfz17_0 := blk_frozen BK263.out 0; have hfz17_1 := blk_frozen BK263.out 1) | ((with_reducible refine gate_callee (f:=7) rfl ?_); refine goesL_ (some 23) rfl rfl Try.func7 (by kernel_rfl) rfl #[.agg #[.slice A0_0 l0_0.length c0_0,.int .i64 a0_1],.int .i64 1048576] rfl mA ?_; (with_reducible refine (laws_szStore.calls k _ _ l0_0 a0_1 1048576 t264 _ ?side1 ?side2 A6.out).mono ?_); (case side1 => repeat (first | exact (Kd.C_below HR0_0.out HB.out) | (with_reducible refine Kd.C_alloc ?_ _) | (with_reducible refine Kd.C_drewN ?_ _) | (with_reducible refine Kd.C_drew ?_))); (case side2 => exact HC0_0.out); rintro e w18 ⟨rfl,hb⟩; refine ⟨_,rfl,?_⟩; have n0_ := Aside0.mk (blk_below (g:=gb263) (o:=.cells #[.slice A0_0 l0_0.length c0_0,.int .i64 a0_1] 24 (0,0)) (kA BK263.out) hb); have n1_ := Aside0.mk (below_step bA hb); clear BK263; clear HB; have BK263 := n0_; have HB := n1_; clear n0_ n1_; (try clear hb); (try clear hb2); (try clear hk); (try clear hi); have hcz19_0 : w18.cell? ⟨gb263,0,none⟩ = some (.slice A0_0 l0_0.length c0_0) := (blk_cell BK263.out 0).trans rfl; have hcz19_1 : w18.cell? ⟨gb263,1,none⟩ = some (.int .i64 a0_1) := (blk_cell BK263.out 1).trans rfl; have hfz19_0 := blk_frozen BK263.out 0; have hfz19_1 := blk_frozen BK263.out 1) | ((with_reducible refine gate_callee (f:=9) rfl ?_); refine goesL_ (some 28) rfl rfl Try.func9 (by kernel_rfl) rfl #[.agg #[.slice A0_0 l0_0.length c0_0,.int .i64 a0_1]] rfl mA ?_; (with_reducible refine (laws_toStore.calls k _ _ l0_0 a0_1 t265 t268 _ ?side1 ?side2 A11.out).mono ?_); (case side1 => repeat (first | exact (Kd.C_below HR0_0.out HB.out) | (with_reducible refine Kd.C_alloc ?_ _) | (with_reducible refine Kd.C_drewN ?_ _) | (with_reducible refine Kd.C_drew ?_))); (case side2 => exact HC0_0.out); rintro e w20 ⟨v266,rfl,ho0,hb⟩; refine ⟨_,rfl,?_⟩; have n0_ := Aside0.mk (Kd.R_lower ho0 (below_size bA)); have n1_ := Aside0.mk (blk_below (g:=gb263) (o:=.cells #[.slice A0_0 l0_0.length c0_0,.int .i64 a0_1] 24 (0,0)) (kA BK263.out) hb); have n2_ := Aside0.mk (below_step bA hb); clear BK263; clear HB; have HO267 := n0_; have BK263 := n1_; have HB := n2_; clear n0_ n1_ n2_; (try clear hb); (try clear hb2); (try clear hk); (try clear hi); (try clear ho0); obtain ⟨Ao21,co21,eo21⟩ := Kd.R_slice HO267.out; subst eo21) | ((with_reducible refine gate_callee (f:=8) rfl ?_); refine goesL_ (some 31) rfl rfl Try.func8 (by kernel_rfl) rfl #[.agg #[.slice Ao21 t265.length co21,.int .i64 t268],.string a1,.int .i64 a2] rfl mA ?_; (with_reducible refine (spec_DeleteVersion.calls k (fun k_ => some k_ = (.slice Ao21 t265.length co21 : Value).ownBlock) (.slice Ao21 t265.length co21) t265 t268 a1 a2 t269 t272 t273 w _ ?side1 ?side2 A12.out).mono ?_); (case side1 => exact bA); (case side2 => exact Kd.R_tight rfl HO267.out); rintro e w22 ⟨v270,rfl,ho0,hb,hkp⟩; refine ⟨_,rfl,?_⟩; have n0_ := Aside0.mk (blk_kept (kA BK263.out) hkp (fun hs_ => (fun e_ => (Kd.R_ne HO267.out BK263.out (by decide)) e_) hs_)); have n1_ := Aside0.mk (Kd.R_mono (ok' := fun k_ => True) ho0 (fun k_ hk_ => trivial)); have n2_ := Aside0.mk (hb); clear BK263; clear HB; clear HO267; have BK263 := n0_; have HO271 := n1_; have HB := n2_; clear n0_ n1_ n2_; (try clear hb); (try clear hkp); (try clear ho0)) | ((with_reducible refine gate_dst (N:=8) rfl ?_); refine box_event ?hg (N:=8) ?hd (cs := #[.slice none 0 0,.int .i64 0]) (t:=28) ?hr ?_; (case hd => rfl); (case hg => rfl); (case hr => first | (go_simp; done) | (go_simp; rfl)); intro gb274 hg w23 hbox hb; have n0_ := Aside0.mk (Kd.R_below (rA HO271.out) hb); have n1_ := Aside0.mk (blk_below (g:=gb263) (o:=.cells #[.slice A0_0 l0_0.length c0_0,.int .i64 a0_1] 24 (0,0)) (kA BK263.out) hb); have n2_ := Aside0.mk (below_step bA hb); have n3_ := Aside0.mk (hbox); have n4_ := Aside0.mk ((by rw [hg]; exact (below_size bA) : w.heap.size ≤ gb274)); have n5_ := Aside0.mk ((by rw [hg]; exact (below_size bA) : w.heap.size ≤ gb274)); have n6_ := Aside0.mk ((by rw [hg]; exact Nat.ne_of_lt (blk_lt (g:=gb263) (o:=.cells #[.slice A0_0 l0_0.length c0_0,.int .i64 a0_1] 24 (0,0)) (kA BK263.out)) : gb263 ≠ gb274)); have n7_ := Aside0.mk ((by rw [hg]; exact Nat.ne_of_gt (blk_lt (g:=gb263) (o:=.cells #[.slice A0_0 l0_0.length c0_0,.int .i64 a0_1] 24 (0,0)) (kA BK263.out)) : gb274 ≠ gb263)); clear HO271; clear BK263; clear HB; have HO271 := n0_; have BK263 := n1_; have HB := n2_; have BK274 := n3_; have GW274 := n4_; have GE274 := n5_; have NB263_274 := n6_; have NB274_263 := n7_; clear n0_ n1_ n2_ n3_ n4_ n5_ n6_ n7_; clear hb hbox hg; obtain ⟨Ao24,co24,eo24⟩ := Kd.R_slice HO271.out; subst eo24; have hnb25 := NB274_263.out; have hnc25 := NB263_274.out; have hcz26_0 : w23.cell? ⟨gb274,0,none⟩ = some (.slice none 0 0) := (blk_cell BK274.out 0).trans rfl; have hcz26_1 : w23.cell? ⟨gb274,1,none⟩ = some (.int .i64 0) := (blk_cell BK274.out 1).trans rfl; have hfz26_0 := blk_frozen BK274.out 0; have hfz26_1 := blk_frozen BK274.out 1; have hcz27_0 : w23.cell? ⟨gb263,0,none⟩ = some (.slice A0_0 l0_0.length c0_0) := (blk_cell BK263.out 0).trans rfl; have hcz27_1 : w23.cell? ⟨gb263,1,none⟩ = some (.int .i64 a0_1) := (blk_cell BK263.out 1).trans rfl; have hfz27_0 := blk_frozen BK263.out 0; have hfz27_1 := blk_frozen BK263.out 1) | ((with_reducible refine gate_callee (f:=9) rfl ?_); refine goesL_ (some 35) rfl rfl Try.func9 (by kernel_rfl) rfl #[.agg #[.slice A0_0 l0_0.length c0_0,.int .i64 a0_1]] rfl mA ?_; (with_reducible refine (laws_toStore.calls k _ _ l0_0 a0_1 t275 t278 _ ?side1 ?side2 A13.out).mono ?_); (case side1 => exact Kd.C_below HR0_0.out bA); (case side2 => exact HC0_0.out); rintro e w28 ⟨v276,rfl,ho0,hb⟩; refine ⟨_,rfl,?_⟩; have n0_ := Aside0.mk (Kd.R_elder' (by (with_reducible repeat (first | apply Kd.R_alloc | apply Kd.R_drewN | apply Kd.R_drew)); exact (Kd.R_mono (Kd.R_far (p:=⟨gb274,1,none⟩) (Kd.R_far (p:=⟨gb274,0,none⟩) (Kd.R_types HO271.out BK274.out (by decide)) (fun _ hk => hk.2) (.slice Ao24 t269.length co24)) (fun _ hk => hk.2) (.int .i64 t272)) (fun _ h_ => h_.1))) (Kd.R_base ho0) hb); have n1_ := Aside0.mk (Kd.R_lower (Kd.R_new' ho0 (Kd.R_lt (by (with_reducible repeat (first | apply Kd.R_alloc | apply Kd.R_drewN | apply Kd.R_drew)); exact (Kd.R_mono (Kd.R_far (p:=⟨gb274,1,none⟩) (Kd.R_far (p:=⟨gb274,0,none⟩) (Kd.R_types HO271.out BK274.out (by decide)) (fun _ hk => hk.2) (.slice Ao24 t269.length co24)) (fun _ hk => hk.2) (.int .i64 t272)) (fun _ h_ => h_.1))))) (below_size bA)); have n2_ := Aside0.mk (blk_below (g:=gb263) (o:=.cells #[.slice A0_0 l0_0.length c0_0,.int .i64 a0_1] 24 (0,0)) (kF BK263.out) hb); have n3_ := Aside0.mk (blk_below (g:=gb274) (o:=.cells #[.slice Ao24 t269.length co24,.int .i64 t272] 28 (0,0)) (by (with_reducible repeat (first | refine blk_drewN ?_ _ | refine blk_drew ?_ | refine blk_alloc ?_ _)); refine blk_put (cs := #[.slice Ao24 t269.length co24,.int .i64 0]) ?_ 1 _ rfl; (with_reducible repeat (first | refine blk_drewN ?_ _ | refine blk_drew ?_ | refine blk_alloc ?_ _)); refine blk_put (cs := #[.slice none 0 0,.int .i64 0]) ?_ 0 _ rfl; (with_reducible repeat (first | refine blk_drewN ?_ _ | refine blk_drew ?_ | refine blk_alloc ?_ _)); exact BK274.out) hb); have n4_ := Aside0.mk (below_step bA hb); clear HO271; clear BK263; clear BK274; clear HB; have HO271 := n0_; have HO277 := n1_; have BK263 := n2_; have BK274 := n3_; have HB := n4_; clear n0_ n1_ n2_ n3_ n4_; (try clear hb); (try clear hb2); (try clear hk); (try clear hi); (try clear ho0)) | ((with_reducible refine gate_dst (N:=10) rfl ?_); refine box_event ?hg (N:=10) ?hd (cs := #[.slice none 0 0,.int .i64 0]) (t:=28) ?hr ?_; (case hd => rfl); (case hg => rfl); (case hr => first | (go_simp; done) | (go_simp; rfl)); intro gb279 hg w29 hbox hb; have n0_ := Aside0.mk (Kd.R_below (rA HO271.out) hb); have n1_ := Aside0.mk (Kd.R_below (rA HO277.out) hb); have n2_ := Aside0.mk (blk_below (g:=gb263) (o:=.cells #[.slice A0_0 l0_0.length c0_0,.int .i64 a0_1] 24 (0,0)) (kA BK263.out) hb); have n3_ := Aside0.mk (blk_below (g:=gb274) (o:=.cells #[.slice Ao24 t269.length co24,.int .i64 t272] 28 (0,0)) (kA BK274.out) hb); have n4_ := Aside0.mk (below_step bA hb); have n5_ := Aside0.mk (hbox); have n6_ := Aside0.mk ((by rw [hg]; exact (below_size bA) : w.heap.size ≤ gb279)); have n7_ := Aside0.mk ((by rw [hg]; exact (below_size bA) : w.heap.size ≤ gb279)); have n8_ := Aside0.mk ((by rw [hg]; exact Nat.ne_of_lt (blk_lt (g:=gb263) (o:=.cells #[.slice A0_0 l0_0.length c0_0,.int .i64 a0_1] 24 (0,0)) (kA BK263.out)) : gb263 ≠ gb279)); have n9_ := Aside0.mk ((by rw [hg]; exact Nat.ne_of_gt (blk_lt (g:=gb263) (o:=.cells #[.slice A0_0 l0_0.length c0_0,.int .i64 a0_1] 24 (0,0)) (kA BK263.out)) : gb279 ≠ gb263)); have n10_ := Aside0.mk ((by rw [hg]; exact Nat.ne_of_lt (blk_lt (g:=gb274) (o:=.cells #[.slice Ao24 t269.length co24,.int .i64 t272] 28 (0,0)) (kA BK274.out)) : gb274 ≠ gb279)); have n11_ := Aside0.mk ((by rw [hg]; exact Nat.ne_of_gt (blk_lt (g:=gb274) (o:=.cells #[.slice Ao24 t269.length co24,.int .i64 t272] 28 (0,0)) (kA BK274.out)) : gb279 ≠ gb274)); clear HO271; clear HO277; clear BK263; clear BK274; clear HB; have HO271 := n0_; have HO277 := n1_; have BK263 := n2_; have BK274 := n3_; have HB := n4_; have BK279 := n5_; have GW279 := n6_; have GE279 := n7_; have NB263_279 := n8_; have NB279_263 := n9_; have NB274_279 := n10_; have NB279_274 := n11_; clear n0_ n1_ n2_ n3_ n4_ n5_ n6_ n7_ n8_ n9_ n10_ n11_; clear hb hbox hg; obtain ⟨Ao30,co30,eo30⟩ := Kd.R_slice HO277.out; subst eo30; have hnb31 := NB279_263.out; have hnc31 := NB263_279.out; have hnb32 := NB279_274.out; have hnc32 := NB274_279.out; have hcz33_0 : w29.cell? ⟨gb279,0,none⟩ = some (.slice none 0 0) := (blk_cell BK279.out 0).trans rfl; have hcz33_1 : w29.cell? ⟨gb279,1,none⟩ = some (.int .i64 0) := (blk_cell BK279.out 1).trans rfl; have hfz33_0 := blk_frozen BK279.out 0; have hfz33_1 := blk_frozen BK279.out 1) | ((with_reducible refine gate_callee (f:=10) rfl ?_); refine goesL_ (some 40) rfl rfl Try.func10 (by kernel_rfl) rfl #[.agg #[.slice Ao30 t275.length co30,.int .i64 t278],.string a1,.int .i64 a2] rfl mA ?_; (with_reducible refine (impl_DeleteVersion.calls k _ _ t275 t278 a1 a2 t280 t283 t284 _ ?side1 ?side2 A14.out).mono ?_); (case side1 => refine (Kd.R_reads' (e:=71) (base := w.heap.size) (ok := fun k_ => (True ∧ some k_ ≠ (.slice Ao24 t269.length co24 : Value).ownBlock)) (n:=t275.length) (c:=co30) ?_).2.2; exact (by (with_reducible repeat (first | apply Kd.R_alloc | apply Kd.R_drewN | apply Kd.R_drew)); exact (Kd.R_mono (Kd.R_far (p:=⟨gb279,1,none⟩) (Kd.R_far (p:=⟨gb279,0,none⟩) (Kd.R_types HO277.out BK279.out (by decide)) (fun _ hk => hk.2) (.slice Ao30 t275.length co30)) (fun _ hk => hk.2) (.int .i64 t278)) (fun _ h_ => h_.1)))); (case side2 => exact (Kd.R_reads' HO277.out).2.1); rintro e w34 ⟨v281,rfl,ho0,hb⟩; refine ⟨_,rfl,?_⟩; have n0_ := Aside0.mk (Kd.R_elder' (by (with_reducible repeat (first | apply Kd.R_alloc | apply Kd.R_drewN | apply Kd.R_drew)); exact (Kd.R_mono (Kd.R_far (p:=⟨gb279,1,none⟩) (Kd.R_far (p:=⟨gb279,0,none⟩) (Kd.R_types HO271.out BK279.out (by decide)) (fun _ hk => hk.2) (.slice Ao30 t275.length co30)) (fun _ hk => hk.2) (.int .i64 t278)) (fun _ h_ => h_.1))) (Kd.R_base ho0) hb); have n1_ := Aside0.mk (Kd.R_elder' (by (with_reducible repeat (first | apply Kd.R_alloc | apply Kd.R_drewN | apply Kd.R_drew)); exact (Kd.R_mono (Kd.R_far (p:=⟨gb279,1,none⟩) (Kd.R_far (p:=⟨gb279,0,none⟩) (Kd.R_types HO277.out BK279.out (by decide)) (fun _ hk => hk.2) (.slice Ao30 t275.length co30)) (fun _ hk => hk.2) (.int .i64 t278)) (fun _ h_ => h_.1))) (Kd.R_base ho0) hb); have n2_ := Aside0.mk (Kd.R_lower (Kd.R_new' (Kd.R_new' ho0 (Kd.R_lt (by (with_reducible repeat (first | apply Kd.R_alloc | apply Kd.R_drewN | apply Kd.R_drew)); exact (Kd.R_mono (Kd.R_far (p:=⟨gb279,1,none⟩) (Kd.R_far (p:=⟨gb279,0,none⟩) (Kd.R_types HO271.out BK279.out (by decide)) (fun _ hk => hk.2) (.slice Ao30 t275.length co30)) (fun _ hk => hk.2) (.int .i64 t278)) (fun _ h_ => h_.1))))) (Kd.R_lt (by (with_reducible repeat (first | apply Kd.R_alloc | apply Kd.R_drewN | apply Kd.R_drew)); exact (Kd.R_mono (Kd.R_far (p:=⟨gb279,1,none⟩) (Kd.R_far (p:=⟨gb279,0,none⟩) (Kd.R_types HO277.out BK279.out (by decide)) (fun _ hk => hk.2) (.slice Ao30 t275.length co30)) (fun _ hk => hk.2) (.int .i64 t278)) (fun _ h_ => h_.1))))) (below_size bA)); have n3_ := Aside0.mk (blk_below (g:=gb263) (o:=.cells #[.slice A0_0 l0_0.length c0_0,.int .i64 a0_1] 24 (0,0)) (kF BK263.out) hb); have n4_ := Aside0.mk (blk_below (g:=gb274) (o:=.cells #[.slice Ao24 t269.length co24,.int .i64 t272] 28 (0,0)) (kF BK274.out) hb); have n5_ := Aside0.mk (blk_below (g:=gb279) (o:=.cells #[.slice Ao30 t275.length co30,.int .i64 t278] 28 (0,0)) (by (with_reducible repeat (first | refine blk_drewN ?_ _ | refine blk_drew ?_ | refine blk_alloc ?_ _)); refine blk_put (cs := #[.slice Ao30 t275.length co30,.int .i64 0]) ?_ 1 _ rfl; (with_reducible repeat (first | refine blk_drewN ?_ _ | refine blk_drew ?_ | refine blk_alloc ?_ _)); refine blk_put (cs := #[.slice none 0 0,.int .i64 0]) ?_ 0 _ rfl; (with_reducible repeat (first | refine blk_drewN ?_ _ | refine blk_drew ?_ | refine blk_alloc ?_ _)); exact BK279.out) hb); have n6_ := Aside0.mk (below_step bA hb); clear HO271; clear HO277; clear BK263; clear BK274; clear BK279; clear HB; have HO271 := n0_; have HO277 := n1_; have HO282 := n2_; have BK263 := n3_; have BK274 := n4_; have BK279 := n5_; have HB := n6_; clear n0_ n1_ n2_ n3_ n4_ n5_ n6_; (try clear hb); (try clear hb2); (try clear hk); (try clear hi); (try clear ho0)) | ((with_reducible refine gate_dst (N:=11) rfl ?_); refine box_event ?hg (N:=11) ?hd (cs := #[.slice none 0 0,.int .i64 0]) (t:=28) ?hr ?_; (case hd => rfl); (case hg => rfl); (case hr => first | (go_simp; done) | (go_simp; rfl)); intro gb285 hg w35 hbox hb; have n0_ := Aside0.mk (Kd.R_below (rA HO271.out) hb); have n1_ := Aside0.mk (Kd.R_below (rA HO277.out) hb); have n2_ := Aside0.mk (Kd.R_below (rA HO282.out) hb); have n3_ := Aside0.mk (blk_below (g:=gb263) (o:=.cells #[.slice A0_0 l0_0.length c0_0,.int .i64 a0_1] 24 (0,0)) (kA BK263.out) hb); have n4_ := Aside0.mk (blk_below (g:=gb274) (o:=.cells #[.slice Ao24 t269.length co24,.int .i64 t272] 28 (0,0)) (kA BK274.out) hb); have n5_ := Aside0.mk (blk_below (g:=gb279) (o:=.cells #[.slice Ao30 t275.length co30,.int .i64 t278] 28 (0,0)) (kA BK279.out) hb); have n6_ := Aside0.mk (below_step bA hb); have n7_ := Aside0.mk (hbox); have n8_ := Aside0.mk ((by rw [hg]; exact (below_size bA) : w.heap.size ≤ gb285)); have n9_ := Aside0.mk ((by rw [hg]; exact (below_size bA) : w.heap.size ≤ gb285)); have n10_ := Aside0.mk ((by rw [hg]; exact Nat.ne_of_lt (blk_lt (g:=gb263) (o:=.cells #[.slice A0_0 l0_0.length c0_0,.int .i64 a0_1] 24 (0,0)) (kA BK263.out)) : gb263 ≠ gb285)); have n11_ := Aside0.mk ((by rw [hg]; exact Nat.ne_of_gt (blk_lt (g:=gb263) (o:=.cells #[.slice A0_0 l0_0.length c0_0,.int .i64 a0_1] 24 (0,0)) (kA BK263.out)) : gb285 ≠ gb263)); have n12_ := Aside0.mk ((by rw [hg]; exact Nat.ne_of_lt (blk_lt (g:=gb274) (o:=.cells #[.slice Ao24 t269.length co24,.int .i64 t272] 28 (0,0)) (kA BK274.out)) : gb274 ≠ gb285)); have n13_ := Aside0.mk ((by rw [hg]; exact Nat.ne_of_gt (blk_lt (g:=gb274) (o:=.cells #[.slice Ao24 t269.length co24,.int .i64 t272] 28 (0,0)) (kA BK274.out)) : gb285 ≠ gb274)); have n14_ := Aside0.mk ((by rw [hg]; exact Nat.ne_of_lt (blk_lt (g:=gb279) (o:=.cells #[.slice Ao30 t275.length co30,.int .i64 t278] 28 (0,0)) (kA BK279.out)) : gb279 ≠ gb285)); have n15_ := Aside0.mk ((by rw [hg]; exact Nat.ne_of_gt (blk_lt (g:=gb279) (o:=.cells #[.slice Ao30 t275.length co30,.int .i64 t278] 28 (0,0)) (kA BK279.out)) : gb285 ≠ gb279)); clear HO271; clear HO277; clear HO282; clear BK263; clear BK274; clear BK279; clear HB; have HO271 := n0_; have HO277 := n1_; have HO282 := n2_; have BK263 := n3_; have BK274 := n4_; have BK279 := n5_; have HB := n6_; have BK285 := n7_; have GW285 := n8_; have GE285 := n9_; have NB263_285 := n10_; have NB285_263 := n11_; have NB274_285 := n12_; have NB285_274 := n13_; have NB279_285 := n14_; have NB285_279 := n15_; clear n0_ n1_ n2_ n3_ n4_ n5_ n6_ n7_ n8_ n9_ n10_ n11_ n12_ n13_ n14_ n15_; clear hb hbox hg; obtain ⟨Ao36,co36,eo36⟩ := Kd.R_slice HO282.out; subst eo36; have hnb37 := NB285_263.out; have hnc37 := NB263_285.out; have hnb38 := NB285_274.out; have hnc38 := NB274_285.out; have hnb39 := NB285_279.out; have hnc39 := NB279_285.out; have hcz40_0 : w35.cell? ⟨gb285,0,none⟩ = some (.slice none 0 0) := (blk_cell BK285.out 0).trans rfl; have hcz40_1 : w35.cell? ⟨gb285,1,none⟩ = some (.int .i64 0) := (blk_cell BK285.out 1).trans rfl; have hfz40_0 := blk_frozen BK285.out 0; have hfz40_1 := blk_frozen BK285.out 1))
   (try simp only [Act.put,setIfInBounds_toArray,set_cons_zero,set_cons_succ])
   go_cut [51] (fun v51 wc => ∃ (kq : Nat) (x51_14 : Bool),v51 = .bool x51_14 ∧ Aside0 (laws_FnExactDeleteVersion.j0 kq a1 a2 t273 t284 x51_14 l0_0 a0_1 t269 t272 t275 t278 t280 t283 = some r) ∧ Aside0 (kq ≤ k) ∧ Aside0 (Kd.R k71 71 wc w.heap.size (fun k_ => some k_ ≠ ((.slice Ao30 t275.length co30) : Value).ownBlock ∧ some k_ ≠ ((.slice Ao36 t280.length co36) : Value).ownBlock) (.slice Ao24 t269.length co24) t269) ∧ Aside0 (Kd.R k71 71 wc w.heap.size (fun k_ => some k_ ≠ ((.slice Ao24 t269.length co24) : Value).ownBlock ∧ some k_ ≠ ((.slice Ao36 t280.length co36) : Value).ownBlock) (.slice Ao30 t275.length co30) t275) ∧ Aside0 (Kd.R k71 71 wc w.heap.size (fun k_ => some k_ ≠ ((.slice Ao24 t269.length co24) : Value).ownBlock ∧ some k_ ≠ ((.slice Ao30 t275.length co30) : Value).ownBlock) (.slice Ao36 t280.length co36) t280) ∧ Aside0 (wc.heap[gb263]? = some (.cells #[(.slice A0_0 l0_0.length c0_0),.int .i64 a0_1] 24 (0,0))) ∧ Aside0 (wc.heap[gb274]? = some (.cells #[(.slice Ao24 t269.length co24),.int .i64 t272] 28 (0,0))) ∧ Aside0 (wc.heap[gb279]? = some (.cells #[(.slice Ao30 t275.length co30),.int .i64 t278] 28 (0,0))) ∧ Aside0 (wc.heap[gb285]? = some (.cells #[(.slice Ao36 t280.length co36),.int .i64 t283] 28 (0,0))) ∧ Aside0 (Below w.heap.size w wc))
   case first =>
    have H := HC15.out
    clear HC15
    replace H := Option.bind_eq_some_iff.mp H
    obtain ⟨t286,A410,H⟩ := H
    try dsimp only at H
    have A41 := Aside0.mk A410
    clear A410
    by_cases c42 : t286 = true
    ·subst c42
     rw [if_pos rfl] at H
     have H' := Aside0.mk H
     clear H
     have hnb43 := NB285_263.out
     have hnc43 := NB263_285.out
     have hnb44 := NB285_274.out
     have hnc44 := NB274_285.out
     have hnb45 := NB285_279.out
     have hnc45 := NB279_285.out
     have hcz46_0 : w35.cell? ⟨gb285,0,none⟩ = some (.slice none 0 0) := (blk_cell BK285.out 0).trans rfl
     have hcz46_1 : w35.cell? ⟨gb285,1,none⟩ = some (.int .i64 0) := (blk_cell BK285.out 1).trans rfl
     have hfz46_0 := blk_frozen BK285.out 0
     have hfz46_1 := blk_frozen BK285.out 1
     have hnb47 := NB274_263.out
     have hnc47 := NB263_274.out
     have hnb48 := NB274_279.out
     have hnc48 := NB279_274.out
     have hcz49_0 : w35.cell? ⟨gb274,0,none⟩ = some (.slice Ao24 t269.length co24) := (blk_cell BK274.out 0).trans rfl
     have hcz49_1 : w35.cell? ⟨gb274,1,none⟩ = some (.int .i64 t272) := (blk_cell BK274.out 1).trans rfl
     have hfz49_0 := blk_frozen BK274.out 0
     have hfz49_1 := blk_frozen BK274.out 1
     go_wp2_with (first | ((with_reducible refine gate_callee (f:=11) rfl ?_); refine goesL_ (some 45) rfl rfl Try.func11 (by kernel_rfl) rfl #[.agg #[.slice Ao36 t280.length co36,.int .i64 t283],.agg #[.slice Ao24 t269.length co24,.int .i64 t272]] rfl mA ?_; (with_reducible refine (laws_eqStore.calls k _ _ t280 t283 _ _ t269 t272 true _ ?side1 ?side2 ?side3 ?side4 A41.out).mono ?_); (case side1 => refine (Kd.R_reads' (e:=71) (base := w.heap.size) (ok := fun k_ => ((True ∧ some k_ ≠ (.slice Ao24 t269.length co24 : Value).ownBlock) ∧ some k_ ≠ (.slice Ao30 t275.length co30 : Value).ownBlock)) (n:=t280.length) (c:=co36) ?_).2.2; exact (by (with_reducible repeat (first | apply Kd.R_alloc | apply Kd.R_drewN | apply Kd.R_drew)); exact (Kd.R_mono (Kd.R_far (p:=⟨gb285,1,none⟩) (Kd.R_far (p:=⟨gb285,0,none⟩) (Kd.R_types HO282.out BK285.out (by decide)) (fun _ hk => hk.2) (.slice Ao36 t280.length co36)) (fun _ hk => hk.2) (.int .i64 t283)) (fun _ h_ => h_.1)))); (case side2 => exact (Kd.R_reads' HO282.out).2.1); (case side3 => refine (Kd.R_reads' (e:=71) (base := w.heap.size) (ok := fun k_ => ((True ∧ some k_ ≠ (.slice Ao30 t275.length co30 : Value).ownBlock) ∧ some k_ ≠ (.slice Ao36 t280.length co36 : Value).ownBlock)) (n:=t269.length) (c:=co24) ?_).2.2; exact (by (with_reducible repeat (first | apply Kd.R_alloc | apply Kd.R_drewN | apply Kd.R_drew)); exact (Kd.R_mono (Kd.R_far (p:=⟨gb285,1,none⟩) (Kd.R_far (p:=⟨gb285,0,none⟩) (Kd.R_types HO271.out BK285.out (by decide)) (fun _ hk => hk.2) (.slice Ao36 t280.length co36)) (fun _ hk => hk.2) (.int .i64 t283)) (fun _ h_ => h_.1)))); (case side4 => exact (Kd.R_reads' HO271.out).2.1); rintro e w50 ⟨rfl,hb⟩; refine ⟨_,rfl,?_⟩; have n0_ := Aside0.mk (Kd.R_below (by (with_reducible repeat (first | apply Kd.R_alloc | apply Kd.R_drewN | apply Kd.R_drew)); exact (Kd.R_mono (Kd.R_far (p:=⟨gb285,1,none⟩) (Kd.R_far (p:=⟨gb285,0,none⟩) (Kd.R_types HO271.out BK285.out (by decide)) (fun _ hk => hk.2) (.slice Ao36 t280.length co36)) (fun _ hk => hk.2) (.int .i64 t283)) (fun _ h_ => h_.1))) hb); have n1_ := Aside0.mk (Kd.R_below (by (with_reducible repeat (first | apply Kd.R_alloc | apply Kd.R_drewN | apply Kd.R_drew)); exact (Kd.R_mono (Kd.R_far (p:=⟨gb285,1,none⟩) (Kd.R_far (p:=⟨gb285,0,none⟩) (Kd.R_types HO277.out BK285.out (by decide)) (fun _ hk => hk.2) (.slice Ao36 t280.length co36)) (fun _ hk => hk.2) (.int .i64 t283)) (fun _ h_ => h_.1))) hb); have n2_ := Aside0.mk (Kd.R_below (by (with_reducible repeat (first | apply Kd.R_alloc | apply Kd.R_drewN | apply Kd.R_drew)); exact (Kd.R_mono (Kd.R_far (p:=⟨gb285,1,none⟩) (Kd.R_far (p:=⟨gb285,0,none⟩) (Kd.R_types HO282.out BK285.out (by decide)) (fun _ hk => hk.2) (.slice Ao36 t280.length co36)) (fun _ hk => hk.2) (.int .i64 t283)) (fun _ h_ => h_.1))) hb); have n3_ := Aside0.mk (blk_below (g:=gb263) (o:=.cells #[.slice A0_0 l0_0.length c0_0,.int .i64 a0_1] 24 (0,0)) (kF BK263.out) hb); have n4_ := Aside0.mk (blk_below (g:=gb274) (o:=.cells #[.slice Ao24 t269.length co24,.int .i64 t272] 28 (0,0)) (kF BK274.out) hb); have n5_ := Aside0.mk (blk_below (g:=gb279) (o:=.cells #[.slice Ao30 t275.length co30,.int .i64 t278] 28 (0,0)) (kF BK279.out) hb); have n6_ := Aside0.mk (blk_below (g:=gb285) (o:=.cells #[.slice Ao36 t280.length co36,.int .i64 t283] 28 (0,0)) (by (with_reducible repeat (first | refine blk_drewN ?_ _ | refine blk_drew ?_ | refine blk_alloc ?_ _)); refine blk_put (cs := #[.slice Ao36 t280.length co36,.int .i64 0]) ?_ 1 _ rfl; (with_reducible repeat (first | refine blk_drewN ?_ _ | refine blk_drew ?_ | refine blk_alloc ?_ _)); refine blk_put (cs := #[.slice none 0 0,.int .i64 0]) ?_ 0 _ rfl; (with_reducible repeat (first | refine blk_drewN ?_ _ | refine blk_drew ?_ | refine blk_alloc ?_ _)); exact BK285.out) hb); have n7_ := Aside0.mk (below_step bA hb); clear HO271; clear HO277; clear HO282; clear BK263; clear BK274; clear BK279; clear BK285; clear HB; have HO271 := n0_; have HO277 := n1_; have HO282 := n2_; have BK263 := n3_; have BK274 := n4_; have BK279 := n5_; have BK285 := n6_; have HB := n7_; clear n0_ n1_ n2_ n3_ n4_ n5_ n6_ n7_; (try clear hb); (try clear hb2); (try clear hk); (try clear hi)))
     go_meet
     case rel => exact ⟨_,((t284 != t273)),(by first | rfl | (simp; done) | (simp [*]; done)),H',⟨by first | omega | exact Nat.le_refl _⟩,⟨by (with_reducible repeat (first | apply Kd.R_alloc | apply Kd.R_drewN | apply Kd.R_drew)); exact Kd.R_mono HO271.out (fun _ hk => ⟨hk.1.2,hk.2⟩)⟩,⟨by (with_reducible repeat (first | apply Kd.R_alloc | apply Kd.R_drewN | apply Kd.R_drew)); exact Kd.R_mono HO277.out (fun _ hk => ⟨hk.1.2,hk.2⟩)⟩,⟨by (with_reducible repeat (first | apply Kd.R_alloc | apply Kd.R_drewN | apply Kd.R_drew)); exact Kd.R_mono HO282.out (fun _ hk => ⟨hk.1.2,hk.2⟩)⟩,⟨kA BK263.out⟩,⟨kA BK274.out⟩,⟨kA BK279.out⟩,⟨kA BK285.out⟩,⟨bA⟩⟩
    ·replace c42 := Bool.eq_false_iff.mpr c42
     subst c42
     rw [if_neg (show ¬ (false = true) by decide)] at H
     have H' := Aside0.mk H
     clear H
     have hnb51 := NB285_263.out
     have hnc51 := NB263_285.out
     have hnb52 := NB285_274.out
     have hnc52 := NB274_285.out
     have hnb53 := NB285_279.out
     have hnc53 := NB279_285.out
     have hcz54_0 : w35.cell? ⟨gb285,0,none⟩ = some (.slice none 0 0) := (blk_cell BK285.out 0).trans rfl
     have hcz54_1 : w35.cell? ⟨gb285,1,none⟩ = some (.int .i64 0) := (blk_cell BK285.out 1).trans rfl
     have hfz54_0 := blk_frozen BK285.out 0
     have hfz54_1 := blk_frozen BK285.out 1
     have hnb55 := NB274_263.out
     have hnc55 := NB263_274.out
     have hnb56 := NB274_279.out
     have hnc56 := NB279_274.out
     have hcz57_0 : w35.cell? ⟨gb274,0,none⟩ = some (.slice Ao24 t269.length co24) := (blk_cell BK274.out 0).trans rfl
     have hcz57_1 : w35.cell? ⟨gb274,1,none⟩ = some (.int .i64 t272) := (blk_cell BK274.out 1).trans rfl
     have hfz57_0 := blk_frozen BK274.out 0
     have hfz57_1 := blk_frozen BK274.out 1
     go_wp2_with (first | ((with_reducible refine gate_callee (f:=11) rfl ?_); refine goesL_ (some 45) rfl rfl Try.func11 (by kernel_rfl) rfl #[.agg #[.slice Ao36 t280.length co36,.int .i64 t283],.agg #[.slice Ao24 t269.length co24,.int .i64 t272]] rfl mA ?_; (with_reducible refine (laws_eqStore.calls k _ _ t280 t283 _ _ t269 t272 false _ ?side1 ?side2 ?side3 ?side4 A41.out).mono ?_); (case side1 => refine (Kd.R_reads' (e:=71) (base := w.heap.size) (ok := fun k_ => ((True ∧ some k_ ≠ (.slice Ao24 t269.length co24 : Value).ownBlock) ∧ some k_ ≠ (.slice Ao30 t275.length co30 : Value).ownBlock)) (n:=t280.length) (c:=co36) ?_).2.2; exact (by (with_reducible repeat (first | apply Kd.R_alloc | apply Kd.R_drewN | apply Kd.R_drew)); exact (Kd.R_mono (Kd.R_far (p:=⟨gb285,1,none⟩) (Kd.R_far (p:=⟨gb285,0,none⟩) (Kd.R_types HO282.out BK285.out (by decide)) (fun _ hk => hk.2) (.slice Ao36 t280.length co36)) (fun _ hk => hk.2) (.int .i64 t283)) (fun _ h_ => h_.1)))); (case side2 => exact (Kd.R_reads' HO282.out).2.1); (case side3 => refine (Kd.R_reads' (e:=71) (base := w.heap.size) (ok := fun k_ => ((True ∧ some k_ ≠ (.slice Ao30 t275.length co30 : Value).ownBlock) ∧ some k_ ≠ (.slice Ao36 t280.length co36 : Value).ownBlock)) (n:=t269.length) (c:=co24) ?_).2.2; exact (by (with_reducible repeat (first | apply Kd.R_alloc | apply Kd.R_drewN | apply Kd.R_drew)); exact (Kd.R_mono (Kd.R_far (p:=⟨gb285,1,none⟩) (Kd.R_far (p:=⟨gb285,0,none⟩) (Kd.R_types HO271.out BK285.out (by decide)) (fun _ hk => hk.2) (.slice Ao36 t280.length co36)) (fun _ hk => hk.2) (.int .i64 t283)) (fun _ h_ => h_.1)))); (case side4 => exact (Kd.R_reads' HO271.out).2.1); rintro e w58 ⟨rfl,hb⟩; refine ⟨_,rfl,?_⟩; have n0_ := Aside0.mk (Kd.R_below (by (with_reducible repeat (first | apply Kd.R_alloc | apply Kd.R_drewN | apply Kd.R_drew)); exact (Kd.R_mono (Kd.R_far (p:=⟨gb285,1,none⟩) (Kd.R_far (p:=⟨gb285,0,none⟩) (Kd.R_types HO271.out BK285.out (by decide)) (fun _ hk => hk.2) (.slice Ao36 t280.length co36)) (fun _ hk => hk.2) (.int .i64 t283)) (fun _ h_ => h_.1))) hb); have n1_ := Aside0.mk (Kd.R_below (by (with_reducible repeat (first | apply Kd.R_alloc | apply Kd.R_drewN | apply Kd.R_drew)); exact (Kd.R_mono (Kd.R_far (p:=⟨gb285,1,none⟩) (Kd.R_far (p:=⟨gb285,0,none⟩) (Kd.R_types HO277.out BK285.out (by decide)) (fun _ hk => hk.2) (.slice Ao36 t280.length co36)) (fun _ hk => hk.2) (.int .i64 t283)) (fun _ h_ => h_.1))) hb); have n2_ := Aside0.mk (Kd.R_below (by (with_reducible repeat (first | apply Kd.R_alloc | apply Kd.R_drewN | apply Kd.R_drew)); exact (Kd.R_mono (Kd.R_far (p:=⟨gb285,1,none⟩) (Kd.R_far (p:=⟨gb285,0,none⟩) (Kd.R_types HO282.out BK285.out (by decide)) (fun _ hk => hk.2) (.slice Ao36 t280.length co36)) (fun _ hk => hk.2) (.int .i64 t283)) (fun _ h_ => h_.1))) hb); have n3_ := Aside0.mk (blk_below (g:=gb263) (o:=.cells #[.slice A0_0 l0_0.length c0_0,.int .i64 a0_1] 24 (0,0)) (kF BK263.out) hb); have n4_ := Aside0.mk (blk_below (g:=gb274) (o:=.cells #[.slice Ao24 t269.length co24,.int .i64 t272] 28 (0,0)) (kF BK274.out) hb); have n5_ := Aside0.mk (blk_below (g:=gb279) (o:=.cells #[.slice Ao30 t275.length co30,.int .i64 t278] 28 (0,0)) (kF BK279.out) hb); have n6_ := Aside0.mk (blk_below (g:=gb285) (o:=.cells #[.slice Ao36 t280.length co36,.int .i64 t283] 28 (0,0)) (by (with_reducible repeat (first | refine blk_drewN ?_ _ | refine blk_drew ?_ | refine blk_alloc ?_ _)); refine blk_put (cs := #[.slice Ao36 t280.length co36,.int .i64 0]) ?_ 1 _ rfl; (with_reducible repeat (first | refine blk_drewN ?_ _ | refine blk_drew ?_ | refine blk_alloc ?_ _)); refine blk_put (cs := #[.slice none 0 0,.int .i64 0]) ?_ 0 _ rfl; (with_reducible repeat (first | refine blk_drewN ?_ _ | refine blk_drew ?_ | refine blk_alloc ?_ _)); exact BK285.out) hb); have n7_ := Aside0.mk (below_step bA hb); clear HO271; clear HO277; clear HO282; clear BK263; clear BK274; clear BK279; clear BK285; clear HB; have HO271 := n0_; have HO277 := n1_; have HO282 := n2_; have BK263 := n3_; have BK274 := n4_; have BK279 := n5_; have BK285 := n6_; have HB := n7_; clear n0_ n1_ n2_ n3_ n4_ n5_ n6_ n7_; (try clear hb); (try clear hb2); (try clear hk); (try clear hi)))
     go_meet
     case rel => exact ⟨_,(true),(by first | rfl | (simp; done) | (simp [*]; done)),H',⟨by first | omega | exact Nat.le_refl _⟩,⟨by (with_reducible repeat (first | apply Kd.R_alloc | apply Kd.R_drewN | apply Kd.R_drew)); exact Kd.R_mono HO271.out (fun _ hk => ⟨hk.1.2,hk.2⟩)⟩,⟨by (with_reducible repeat (first | apply Kd.R_alloc | apply Kd.R_drewN | apply Kd.R_drew)); exact Kd.R_mono HO277.out (fun _ hk => ⟨hk.1.2,hk.2⟩)⟩,⟨by (with_reducible repeat (first | apply Kd.R_alloc | apply Kd.R_drewN | apply Kd.R_drew)); exact Kd.R_mono HO282.out (fun _ hk => ⟨hk.1.2,hk.2⟩)⟩,⟨kA BK263.out⟩,⟨kA BK274.out⟩,⟨kA BK279.out⟩,⟨kA BK285.out⟩,⟨bA⟩⟩
   case rest =>
    clear HC15
    try clear c1
    try clear c2
    try clear p2
    try clear c3
    try clear c4
    try clear c4b0
    try clear c4b1
    try clear c5
    try clear c7
    try clear c7b0
    try clear c8
    try clear c9
    try clear c10
    try clear c11
    try clear c25
    try clear c31
    try clear c32
    try clear c37
    try clear c38
    try clear c39
    try clear c42
    try clear c43
    try clear c44
    try clear c45
    try clear c47
    try clear c48
    try clear c51
    try clear c52
    try clear c53
    try clear c55
    try clear c56
    try clear hcz17_0
    try clear hcz17_1
    try clear hcz19_0
    try clear hcz19_1
    try clear hcz26_0
    try clear hcz26_1
    try clear hcz27_0
    try clear hcz27_1
    try clear hcz33_0
    try clear hcz33_1
    try clear hcz40_0
    try clear hcz40_1
    try clear hcz46_0
    try clear hcz46_1
    try clear hcz49_0
    try clear hcz49_1
    try clear hcz54_0
    try clear hcz54_1
    try clear hcz57_0
    try clear hcz57_1
    try clear hcz9_0
    try clear hcz9_1
    try clear hfz17_0
    try clear hfz17_1
    try clear hfz19_0
    try clear hfz19_1
    try clear hfz26_0
    try clear hfz26_1
    try clear hfz27_0
    try clear hfz27_1
    try clear hfz33_0
    try clear hfz33_1
    try clear hfz40_0
    try clear hfz40_1
    try clear hfz46_0
    try clear hfz46_1
    try clear hfz49_0
    try clear hfz49_1
    try clear hfz54_0
    try clear hfz54_1
    try clear hfz57_0
    try clear hfz57_1
    try clear hfz9_0
    try clear hfz9_1
    obtain ⟨kq,x51_14,rfl,HA,HJ14,HO_275000,HO_280000,HO_286000,BK263,BK274,BK279,BK285,HB⟩ := hcut
    cases kq with
    | zero => exact absurd HA.out (by simp [laws_FnExactDeleteVersion.j0])
    | succ kj14 =>
     have H := HA.out
     clear HA
     simp only [laws_FnExactDeleteVersion.j0] at H
     by_cases c59 : x51_14 = true
     ·subst c59
      rw [if_pos rfl] at H
      exact absurd H (by simp)
     ·replace c59 := Bool.eq_false_iff.mpr c59
      subst c59
      rw [if_neg (show ¬ (false = true) by decide)] at H
      replace H := Option.bind_eq_some_iff.mp H
      obtain ⟨⟨t287,t290⟩,A600,H⟩ := H
      try dsimp only at H
      have A60 := Aside0.mk A600
      clear A600
      replace H := Option.bind_eq_some_iff.mp H
      obtain ⟨t291,A610,H⟩ := H
      try dsimp only at H
      have A61 := Aside0.mk A610
      clear A610
      by_cases c62 : t291 = true
      ·subst c62
       rw [if_pos rfl] at H
       replace H := Option.bind_eq_some_iff.mp H
       obtain ⟨⟨t292,t293⟩,A630,H⟩ := H
       try dsimp only at H
       have A63 := Aside0.mk A630
       clear A630
       have HC64 := Aside0.mk H
       clear H
       try go_wp2
       have n0_ := Aside0.mk (Kd.R_drew HO_275000.out)
       have n1_ := Aside0.mk (Kd.R_drew HO_280000.out)
       have n2_ := Aside0.mk (Kd.R_drew HO_286000.out)
       have n3_ := Aside0.mk (blk_drew BK263.out)
       have n4_ := Aside0.mk (blk_drew BK274.out)
       have n5_ := Aside0.mk (blk_drew BK279.out)
       have n6_ := Aside0.mk (blk_drew BK285.out)
       have n7_ := Aside0.mk (below_drew1 HB.out)
       clear HO_275000
       clear HO_280000
       clear HO_286000
       clear BK263
       clear BK274
       clear BK279
       clear BK285
       clear HB
       have HO_275000 := n0_
       have HO_280000 := n1_
       have HO_286000 := n2_
       have BK263 := n3_
       have BK274 := n4_
       have BK279 := n5_
       have BK285 := n6_
       have HB := n7_
       clear n0_ n1_ n2_ n3_ n4_ n5_ n6_ n7_
       refine start_ (n:=5) (S:=fun w' => w'.cell? ⟨gb279,0,none⟩ = some (.slice Ao30 t275.length co30) ∧ w'.cell? ⟨gb279,1,none⟩ = some (.int .i64 t278) ∧ w'.cell? ⟨gb263,0,none⟩ = some (.slice A0_0 l0_0.length c0_0) ∧ w'.cell? ⟨gb263,1,none⟩ = some (.int .i64 a0_1)) (ds := []) #[false,false,false,false,false] (by kernel_rfl) rfl rfl ⟨(blk_cell BK279.out 0).trans rfl,(blk_cell BK279.out 1).trans rfl,(blk_cell BK263.out 0).trans rfl,(blk_cell BK263.out 1).trans rfl⟩ (fun hHeld => ?_)
       generalize wc.drew = w65 at HO_275000 HO_280000 HO_286000 BK263 BK274 BK279 BK285 HB hHeld ⊢
       refine take_ (i:=0) (N:=some 52) (v:=?_) (a':=?_) #[true,false,false,false,false] rfl rfl (by kernel_rfl) (fun _ _ _ h => h) (Or.inl ⟨by rfl,?_⟩) hHeld ?_ ?_
       rotate_left
       ·rintro w' ⟨s0,s1,s2,s3⟩
        go_simp
        with_reducible rfl
       rotate_left
       ·simp only [Act.put,setIfInBounds_toArray,set_cons_zero,set_cons_succ,i64_w,i32_w]
        rfl
       refine take_ (i:=1) (N:=some 53) (v:=?_) (a':=?_) #[true,true,false,false,false] rfl rfl (by kernel_rfl) (fun _ _ _ h => h) (Or.inl ⟨by rfl,?_⟩) hHeld ?_ ?_
       rotate_left
       ·rintro w' ⟨s0,s1,s2,s3⟩
        go_simp
        with_reducible rfl
       rotate_left
       ·simp only [Act.put,setIfInBounds_toArray,set_cons_zero,set_cons_succ,i64_w,i32_w]
        rfl
       refine one_ (i:=2) (N:=some 54) #[true,true,true,false,false] rfl rfl (by kernel_rfl) (by decide) (fun K hK => ?_)
       refine goes_ Try.func9 (by kernel_rfl) rfl #[.agg #[.slice A0_0 l0_0.length c0_0,.int .i64 a0_1]] (by rfl) rfl rfl mA ?_
       with_reducible refine (laws_toStore.calls kj14 _ _ l0_0 a0_1 t287 t290 _ ?side1 ?side2 A60.out).mono ?_
       (case side1 => repeat (first | exact (Kd.C_below HR0_0.out HB.out) | (with_reducible refine Kd.C_alloc ?_ _) | (with_reducible refine Kd.C_drewN ?_ _) | (with_reducible refine Kd.C_drew ?_)))
       (case side2 => exact HC0_0.out)
       rintro e w66 ⟨v288,rfl,ho0,hb⟩
       refine ⟨_,rfl,?_⟩
       have n0_ := Aside0.mk (Kd.R_elder' (rA HO_275000.out) (Kd.R_base ho0) hb)
       have n1_ := Aside0.mk (Kd.R_elder' (rA HO_280000.out) (Kd.R_base ho0) hb)
       have n2_ := Aside0.mk (Kd.R_elder' (rA HO_286000.out) (Kd.R_base ho0) hb)
       have n3_ := Aside0.mk (Kd.R_lower (Kd.R_new' (Kd.R_new' (Kd.R_new' ho0 (Kd.R_lt (rA HO_275000.out))) (Kd.R_lt (rA HO_280000.out))) (Kd.R_lt (rA HO_286000.out))) (below_size bA))
       have n4_ := Aside0.mk (blk_below (g:=gb263) (o:=.cells #[.slice A0_0 l0_0.length c0_0,.int .i64 a0_1] 24 (0,0)) (kA BK263.out) hb)
       have n5_ := Aside0.mk (blk_below (g:=gb274) (o:=.cells #[.slice Ao24 t269.length co24,.int .i64 t272] 28 (0,0)) (kA BK274.out) hb)
       have n6_ := Aside0.mk (blk_below (g:=gb279) (o:=.cells #[.slice Ao30 t275.length co30,.int .i64 t278] 28 (0,0)) (kA BK279.out) hb)
       have n7_ := Aside0.mk (blk_below (g:=gb285) (o:=.cells #[.slice Ao36 t280.length co36,.int .i64 t283] 28 (0,0)) (kA BK285.out) hb)
       have n8_ := Aside0.mk (below_step bA hb)
       clear HO_275000
       clear HO_280000
       clear HO_286000
       clear BK263
       clear BK274
       clear BK279
       clear BK285
       clear HB
       have HO_275000 := n0_
       have HO_280000 := n1_
       have HO_286000 := n2_
       have HO289 := n3_
       have BK263 := n4_
       have BK274 := n5_
       have BK279 := n6_
       have BK285 := n7_
       have HB := n8_
       clear n0_ n1_ n2_ n3_ n4_ n5_ n6_ n7_ n8_
       (try clear hb)
       (try clear hb2)
       (try clear hk)
       (try clear hi)
       (try clear ho0)
       obtain ⟨Ao67,co67,eo67⟩ := Kd.R_slice HO289.out
       (first | subst eo67 | (injection eo67 with f1_ f2_ f3_; have f4_ := f1_.symm; have f5_ := f3_.symm; clear f1_ f2_ f3_; subst f4_; subst f5_))
       refine hK.out _ _ ⟨(blk_cell BK279.out 0).trans rfl,(blk_cell BK279.out 1).trans rfl,(blk_cell BK263.out 0).trans rfl,(blk_cell BK263.out 1).trans rfl⟩ (fun hHeld => ?_)
       clear hK K
       refine norm_ (a':=?_) ?_ ?_
       rotate_left
       ·show Act.put _ (some 54) _ = _
        simp only [Act.put,setIfInBounds_toArray,set_cons_zero,set_cons_succ,i64_w,i32_w]
        rfl
       refine one_ (i:=3) (N:=some 55) #[true,true,true,true,false] rfl rfl (by kernel_rfl) (by decide) (fun K hK => ?_)
       refine goes_ Try.func11 (by kernel_rfl) rfl #[.agg #[.slice Ao30 t275.length co30,.int .i64 t278],.agg #[.slice Ao67 t287.length co67,.int .i64 t290]] (by rfl) rfl rfl mA ?_
       with_reducible refine (laws_eqStore.calls kj14 _ _ t275 t278 _ _ t287 t290 true _ ?side1 ?side2 ?side3 ?side4 A61.out).mono ?_
       (case side1 => repeat (first | exact (Kd.R_reads' HO_280000.out).2.2 | (with_reducible refine Kd.C_alloc ?_ _) | (with_reducible refine Kd.C_drewN ?_ _) | (with_reducible refine Kd.C_drew ?_)))
       (case side2 => exact (Kd.R_reads' HO_280000.out).2.1)
       (case side3 => repeat (first | exact (Kd.R_reads' HO289.out).2.2 | (with_reducible refine Kd.C_alloc ?_ _) | (with_reducible refine Kd.C_drewN ?_ _) | (with_reducible refine Kd.C_drew ?_)))
       (case side4 => exact (Kd.R_reads' HO289.out).2.1)
       rintro e w68 ⟨rfl,hb⟩
       refine ⟨_,rfl,?_⟩
       have n0_ := Aside0.mk (Kd.R_below (rA HO_275000.out) hb)
       have n1_ := Aside0.mk (Kd.R_below (rA HO_280000.out) hb)
       have n2_ := Aside0.mk (Kd.R_below (rA HO_286000.out) hb)
       have n3_ := Aside0.mk (Kd.R_below (rA HO289.out) hb)
       have n4_ := Aside0.mk (blk_below (g:=gb263) (o:=.cells #[.slice A0_0 l0_0.length c0_0,.int .i64 a0_1] 24 (0,0)) (kA BK263.out) hb)
       have n5_ := Aside0.mk (blk_below (g:=gb274) (o:=.cells #[.slice Ao24 t269.length co24,.int .i64 t272] 28 (0,0)) (kA BK274.out) hb)
       have n6_ := Aside0.mk (blk_below (g:=gb279) (o:=.cells #[.slice Ao30 t275.length co30,.int .i64 t278] 28 (0,0)) (kA BK279.out) hb)
       have n7_ := Aside0.mk (blk_below (g:=gb285) (o:=.cells #[.slice Ao36 t280.length co36,.int .i64 t283] 28 (0,0)) (kA BK285.out) hb)
       have n8_ := Aside0.mk (below_step bA hb)
       clear HO_275000
       clear HO_280000
       clear HO_286000
       clear HO289
       clear BK263
       clear BK274
       clear BK279
       clear BK285
       clear HB
       have HO_275000 := n0_
       have HO_280000 := n1_
       have HO_286000 := n2_
       have HO289 := n3_
       have BK263 := n4_
       have BK274 := n5_
       have BK279 := n6_
       have BK285 := n7_
       have HB := n8_
       clear n0_ n1_ n2_ n3_ n4_ n5_ n6_ n7_ n8_
       (try clear hb)
       (try clear hb2)
       (try clear hk)
       (try clear hi)
       refine hK.out _ _ ⟨(blk_cell BK279.out 0).trans rfl,(blk_cell BK279.out 1).trans rfl,(blk_cell BK263.out 0).trans rfl,(blk_cell BK263.out 1).trans rfl⟩ (fun hHeld => ?_)
       clear hK K
       refine norm_ (a':=?_) ?_ ?_
       rotate_left
       ·show Act.put _ (some 55) _ = _
        simp only [Act.put,setIfInBounds_toArray,set_cons_zero,set_cons_succ,i64_w,i32_w]
        rfl
       refine pure_ (i:=4) (N:=some 56) (v:=?_) (a':=?_) #[true,true,true,true,true] rfl rfl (by kernel_rfl) (fun _ _ _ h => h) (Or.inl ⟨by rfl,?_⟩) ?_ ?_
       rotate_left
       ·intro w'
        go_simp
        with_reducible rfl
       rotate_left
       ·simp only [Act.put,setIfInBounds_toArray,set_cons_zero,set_cons_succ,i64_w,i32_w]
        rfl
       refine done_ (by kernel_rfl) ?_
       have hnb69 := NB279_263.out
       have hnc69 := NB263_279.out
       have hnb70 := NB279_274.out
       have hnc70 := NB274_279.out
       have hnb71 := NB279_285.out
       have hnc71 := NB285_279.out
       have hcz72_0 : w68.cell? ⟨gb279,0,none⟩ = some (.slice Ao30 t275.length co30) := (blk_cell BK279.out 0).trans rfl
       have hcz72_1 : w68.cell? ⟨gb279,1,none⟩ = some (.int .i64 t278) := (blk_cell BK279.out 1).trans rfl
       have hfz72_0 := blk_frozen BK279.out 0
       have hfz72_1 := blk_frozen BK279.out 1
       go_upto_region 16 with (first | ((with_reducible refine gate_callee (f:=12) rfl ?_); refine goesL_ (some 59) rfl rfl Try.func12 (by kernel_rfl) rfl #[.agg #[.slice Ao30 t275.length co30,.int .i64 t278],.int .i64 1] rfl mA ?_; (with_reducible refine (laws_markStore.calls kj14 (fun k_ => some k_ = (.slice Ao30 t275.length co30 : Value).ownBlock) (.slice Ao30 t275.length co30) t275 t278 1 t292 t293 w _ ?side1 ?side2 A63.out).mono ?_); (case side1 => exact bA); (case side2 => exact Kd.R_tight rfl HO_280000.out); rintro e w73 ⟨rfl,hy0,hb,hkp⟩; refine ⟨_,rfl,?_⟩; have n0_ := Aside0.mk (Kd.R_mono (ok' := fun k_ => some k_ ≠ (.slice Ao30 t275.length co30 : Value).ownBlock ∧ some k_ ≠ (.slice Ao36 t280.length co36 : Value).ownBlock ∧ some k_ ≠ (.slice Ao67 t287.length co67 : Value).ownBlock) (Kd.R_keptB (HO_275000.out) hkp (fun k_ hk_ hs_ => (hk_.1.1) hs_)) (fun k_ hk_ => ⟨hk_.1.1.1,hk_.1.1.2,hk_.1.2⟩)); have n1_ := Aside0.mk (Kd.R_reok rfl hy0 (fun k_ e_ => HO_280000.out.1 k_ e_)); have n2_ := Aside0.mk (Kd.R_mono (ok' := fun k_ => some k_ ≠ (.slice Ao24 t269.length co24 : Value).ownBlock ∧ some k_ ≠ (.slice Ao30 t275.length co30 : Value).ownBlock ∧ some k_ ≠ (.slice Ao67 t287.length co67 : Value).ownBlock) (Kd.R_keptB (HO_286000.out) hkp (fun k_ hk_ hs_ => (hk_.1.2) hs_)) (fun k_ hk_ => ⟨hk_.1.1.1,hk_.1.1.2,hk_.1.2⟩)); have n3_ := Aside0.mk (blk_kept (kA BK263.out) hkp (fun hs_ => (fun e_ => (Kd.R_ne HO_280000.out BK263.out (by decide)) e_) hs_)); have n4_ := Aside0.mk (blk_kept (kA BK274.out) hkp (fun hs_ => (fun e_ => (Kd.R_ne HO_280000.out BK274.out (by decide)) e_) hs_)); have n5_ := Aside0.mk (blk_kept (kA BK279.out) hkp (fun hs_ => (fun e_ => (Kd.R_ne HO_280000.out BK279.out (by decide)) e_) hs_)); have n6_ := Aside0.mk (blk_kept (kA BK285.out) hkp (fun hs_ => (fun e_ => (Kd.R_ne HO_280000.out BK285.out (by decide)) e_) hs_)); have n7_ := Aside0.mk (Kd.R_mono (ok' := fun k_ => some k_ ≠ (.slice Ao24 t269.length co24 : Value).ownBlock ∧ some k_ ≠ (.slice Ao30 t275.length co30 : Value).ownBlock ∧ some k_ ≠ (.slice Ao36 t280.length co36 : Value).ownBlock) (Kd.R_keptB (HO289.out) hkp (fun k_ hk_ hs_ => (hk_.1.2) hs_)) (fun k_ hk_ => ⟨hk_.1.1.1.2,hk_.1.1.2,hk_.1.2⟩)); have n8_ := Aside0.mk (hb); clear HO_275000; clear HO_280000; clear HO_286000; clear BK263; clear BK274; clear BK279; clear BK285; clear HO289; clear HB; have HO_275000 := n0_; have HO_280000 := n1_; have HO_286000 := n2_; have BK263 := n3_; have BK274 := n4_; have BK279 := n5_; have BK285 := n6_; have HO289 := n7_; have HB := n8_; clear n0_ n1_ n2_ n3_ n4_ n5_ n6_ n7_ n8_; (try clear hb); (try clear hkp); (try clear hy0)))
       (try simp only [Act.put,setIfInBounds_toArray,set_cons_zero,set_cons_succ])
       go_cut [72] (fun v72 wc => ∃ (kq : Nat) (x72_63 : Bool),v72 = .bool x72_63 ∧ Aside0 (laws_FnExactDeleteVersion.j1 kq a1 a2 t273 x72_63 l0_0 a0_1 t269 t272 t280 t283 = some r) ∧ Aside0 (kq ≤ kj14) ∧ Aside0 (Kd.R k71 71 wc w.heap.size (fun k_ => some k_ ≠ ((.slice Ao30 t275.length co30) : Value).ownBlock ∧ some k_ ≠ ((.slice Ao36 t280.length co36) : Value).ownBlock) (.slice Ao24 t269.length co24) t269) ∧ Aside0 (Kd.R k71 71 wc w.heap.size (fun k_ => some k_ ≠ ((.slice Ao24 t269.length co24) : Value).ownBlock ∧ some k_ ≠ ((.slice Ao36 t280.length co36) : Value).ownBlock) (.slice Ao30 t275.length co30) t293) ∧ Aside0 (Kd.R k71 71 wc w.heap.size (fun k_ => some k_ ≠ ((.slice Ao24 t269.length co24) : Value).ownBlock ∧ some k_ ≠ ((.slice Ao30 t275.length co30) : Value).ownBlock) (.slice Ao36 t280.length co36) t280) ∧ Aside0 (wc.heap[gb263]? = some (.cells #[(.slice A0_0 l0_0.length c0_0),.int .i64 a0_1] 24 (0,0))) ∧ Aside0 (wc.heap[gb274]? = some (.cells #[(.slice Ao24 t269.length co24),.int .i64 t272] 28 (0,0))) ∧ Aside0 (wc.heap[gb279]? = some (.cells #[(.slice Ao30 t275.length co30),.int .i64 t278] 28 (0,0))) ∧ Aside0 (wc.heap[gb285]? = some (.cells #[(.slice Ao36 t280.length co36),.int .i64 t283] 28 (0,0))) ∧ Aside0 (Below w.heap.size w wc))
       case first =>
        have H := HC64.out
        clear HC64
        by_cases c74 : t292 < 0
        ·rw [if_pos c74] at H
         have c74b0 : decide (t292 < 0) = true := decide_eq_true c74
         clear c74
         (first | rw [c74b0] | (simp only [i64_w,i32_w]; rw [c74b0]) | skip)
         have H' := Aside0.mk H
         clear H
         go_wp2
         go_meet
         case rel => exact ⟨_,(true),(by first | rfl | (simp; done) | (simp [*]; done)),H',⟨by have := HJ14.out; first | omega | exact Nat.le_refl _⟩,⟨by (with_reducible repeat (first | apply Kd.R_alloc | apply Kd.R_drewN | apply Kd.R_drew)); exact Kd.R_mono HO_275000.out (fun _ hk => ⟨hk.1,hk.2.1⟩)⟩,⟨by (with_reducible repeat (first | apply Kd.R_alloc | apply Kd.R_drewN | apply Kd.R_drew)); exact Kd.R_mono HO_280000.out (fun _ hk => ⟨hk.1.1,hk.1.2⟩)⟩,⟨by (with_reducible repeat (first | apply Kd.R_alloc | apply Kd.R_drewN | apply Kd.R_drew)); exact Kd.R_mono HO_286000.out (fun _ hk => ⟨hk.1,hk.2.1⟩)⟩,⟨kA BK263.out⟩,⟨kA BK274.out⟩,⟨kA BK279.out⟩,⟨kA BK285.out⟩,⟨bA⟩⟩
        ·rw [if_neg c74] at H
         have c74b0 : decide (t292 < 0) = false := decide_eq_false c74
         clear c74
         (first | rw [c74b0] | (simp only [i64_w,i32_w]; rw [c74b0]) | skip)
         replace H := Option.bind_eq_some_iff.mp H
         obtain ⟨t294,A750,H⟩ := H
         try dsimp only at H
         have A75 := Aside0.mk A750
         clear A750
         by_cases c76 : t294 = true
         ·subst c76
          rw [if_pos rfl] at H
          have H' := Aside0.mk H
          clear H
          have hnb77 := NB285_263.out
          have hnc77 := NB263_285.out
          have hnb78 := NB285_274.out
          have hnc78 := NB274_285.out
          have hnb79 := NB285_279.out
          have hnc79 := NB279_285.out
          have hcz80_0 : w73.cell? ⟨gb285,0,none⟩ = some (.slice Ao36 t280.length co36) := (blk_cell BK285.out 0).trans rfl
          have hcz80_1 : w73.cell? ⟨gb285,1,none⟩ = some (.int .i64 t283) := (blk_cell BK285.out 1).trans rfl
          have hfz80_0 := blk_frozen BK285.out 0
          have hfz80_1 := blk_frozen BK285.out 1
          have hnb81 := NB274_263.out
          have hnc81 := NB263_274.out
          have hnb82 := NB274_279.out
          have hnc82 := NB279_274.out
          have hcz83_0 : w73.cell? ⟨gb274,0,none⟩ = some (.slice Ao24 t269.length co24) := (blk_cell BK274.out 0).trans rfl
          have hcz83_1 : w73.cell? ⟨gb274,1,none⟩ = some (.int .i64 t272) := (blk_cell BK274.out 1).trans rfl
          have hfz83_0 := blk_frozen BK274.out 0
          have hfz83_1 := blk_frozen BK274.out 1
          go_wp2_with (first | (go_at_call 11; (with_reducible refine (laws_eqStore.calls kj14 _ _ t280 t283 _ _ t269 t272 true _ ?side1 ?side2 ?side3 ?side4 A75.out).mono ?_); (case side1 => repeat (first | exact (Kd.R_reads' HO_286000.out).2.2 | (with_reducible refine Kd.C_alloc ?_ _) | (with_reducible refine Kd.C_drewN ?_ _) | (with_reducible refine Kd.C_drew ?_))); (case side2 => exact (Kd.R_reads' HO_286000.out).2.1); (case side3 => repeat (first | exact (Kd.R_reads' HO_275000.out).2.2 | (with_reducible refine Kd.C_alloc ?_ _) | (with_reducible refine Kd.C_drewN ?_ _) | (with_reducible refine Kd.C_drew ?_))); (case side4 => exact (Kd.R_reads' HO_275000.out).2.1); rintro e w84 ⟨rfl,hb⟩; have n0_ := Aside0.mk (Kd.R_below (rA HO_275000.out) hb); have n1_ := Aside0.mk (Kd.R_below (rA HO_280000.out) hb); have n2_ := Aside0.mk (Kd.R_below (rA HO_286000.out) hb); have n3_ := Aside0.mk (Kd.R_below (rA HO289.out) hb); have n4_ := Aside0.mk (blk_below (g:=gb263) (o:=.cells #[.slice A0_0 l0_0.length c0_0,.int .i64 a0_1] 24 (0,0)) (kA BK263.out) hb); have n5_ := Aside0.mk (blk_below (g:=gb274) (o:=.cells #[.slice Ao24 t269.length co24,.int .i64 t272] 28 (0,0)) (kA BK274.out) hb); have n6_ := Aside0.mk (blk_below (g:=gb279) (o:=.cells #[.slice Ao30 t275.length co30,.int .i64 t278] 28 (0,0)) (kA BK279.out) hb); have n7_ := Aside0.mk (blk_below (g:=gb285) (o:=.cells #[.slice Ao36 t280.length co36,.int .i64 t283] 28 (0,0)) (kA BK285.out) hb); have n8_ := Aside0.mk (below_step bA hb); clear HO_275000; clear HO_280000; clear HO_286000; clear HO289; clear BK263; clear BK274; clear BK279; clear BK285; clear HB; have HO_275000 := n0_; have HO_280000 := n1_; have HO_286000 := n2_; have HO289 := n3_; have BK263 := n4_; have BK274 := n5_; have BK279 := n6_; have BK285 := n7_; have HB := n8_; clear n0_ n1_ n2_ n3_ n4_ n5_ n6_ n7_ n8_; (try clear hb); (try clear hb2); (try clear hk); (try clear hi)))
          go_meet
          case rel => exact ⟨_,((t284 != t273)),(by first | rfl | (simp; done) | (simp [*]; done)),H',⟨by have := HJ14.out; first | omega | exact Nat.le_refl _⟩,⟨by (with_reducible repeat (first | apply Kd.R_alloc | apply Kd.R_drewN | apply Kd.R_drew)); exact Kd.R_mono HO_275000.out (fun _ hk => ⟨hk.1,hk.2.1⟩)⟩,⟨by (with_reducible repeat (first | apply Kd.R_alloc | apply Kd.R_drewN | apply Kd.R_drew)); exact Kd.R_mono HO_280000.out (fun _ hk => ⟨hk.1.1,hk.1.2⟩)⟩,⟨by (with_reducible repeat (first | apply Kd.R_alloc | apply Kd.R_drewN | apply Kd.R_drew)); exact Kd.R_mono HO_286000.out (fun _ hk => ⟨hk.1,hk.2.1⟩)⟩,⟨kA BK263.out⟩,⟨kA BK274.out⟩,⟨kA BK279.out⟩,⟨kA BK285.out⟩,⟨bA⟩⟩
         ·replace c76 := Bool.eq_false_iff.mpr c76
          subst c76
          rw [if_neg (show ¬ (false = true) by decide)] at H
          have H' := Aside0.mk H
          clear H
          have hnb85 := NB285_263.out
          have hnc85 := NB263_285.out
          have hnb86 := NB285_274.out
          have hnc86 := NB274_285.out
          have hnb87 := NB285_279.out
          have hnc87 := NB279_285.out
          have hcz88_0 : w73.cell? ⟨gb285,0,none⟩ = some (.slice Ao36 t280.length co36) := (blk_cell BK285.out 0).trans rfl
          have hcz88_1 : w73.cell? ⟨gb285,1,none⟩ = some (.int .i64 t283) := (blk_cell BK285.out 1).trans rfl
          have hfz88_0 := blk_frozen BK285.out 0
          have hfz88_1 := blk_frozen BK285.out 1
          have hnb89 := NB274_263.out
          have hnc89 := NB263_274.out
          have hnb90 := NB274_279.out
          have hnc90 := NB279_274.out
          have hcz91_0 : w73.cell? ⟨gb274,0,none⟩ = some (.slice Ao24 t269.length co24) := (blk_cell BK274.out 0).trans rfl
          have hcz91_1 : w73.cell? ⟨gb274,1,none⟩ = some (.int .i64 t272) := (blk_cell BK274.out 1).trans rfl
          have hfz91_0 := blk_frozen BK274.out 0
          have hfz91_1 := blk_frozen BK274.out 1
          go_wp2_with (first | (go_at_call 11; (with_reducible refine (laws_eqStore.calls kj14 _ _ t280 t283 _ _ t269 t272 false _ ?side1 ?side2 ?side3 ?side4 A75.out).mono ?_); (case side1 => repeat (first | exact (Kd.R_reads' HO_286000.out).2.2 | (with_reducible refine Kd.C_alloc ?_ _) | (with_reducible refine Kd.C_drewN ?_ _) | (with_reducible refine Kd.C_drew ?_))); (case side2 => exact (Kd.R_reads' HO_286000.out).2.1); (case side3 => repeat (first | exact (Kd.R_reads' HO_275000.out).2.2 | (with_reducible refine Kd.C_alloc ?_ _) | (with_reducible refine Kd.C_drewN ?_ _) | (with_reducible refine Kd.C_drew ?_))); (case side4 => exact (Kd.R_reads' HO_275000.out).2.1); rintro e w92 ⟨rfl,hb⟩; have n0_ := Aside0.mk (Kd.R_below (rA HO_275000.out) hb); have n1_ := Aside0.mk (Kd.R_below (rA HO_280000.out) hb); have n2_ := Aside0.mk (Kd.R_below (rA HO_286000.out) hb); have n3_ := Aside0.mk (Kd.R_below (rA HO289.out) hb); have n4_ := Aside0.mk (blk_below (g:=gb263) (o:=.cells #[.slice A0_0 l0_0.length c0_0,.int .i64 a0_1] 24 (0,0)) (kA BK263.out) hb); have n5_ := Aside0.mk (blk_below (g:=gb274) (o:=.cells #[.slice Ao24 t269.length co24,.int .i64 t272] 28 (0,0)) (kA BK274.out) hb); have n6_ := Aside0.mk (blk_below (g:=gb279) (o:=.cells #[.slice Ao30 t275.length co30,.int .i64 t278] 28 (0,0)) (kA BK279.out) hb); have n7_ := Aside0.mk (blk_below (g:=gb285) (o:=.cells #[.slice Ao36 t280.length co36,.int .i64 t283] 28 (0,0)) (kA BK285.out) hb); have n8_ := Aside0.mk (below_step bA hb); clear HO_275000; clear HO_280000; clear HO_286000; clear HO289; clear BK263; clear BK274; clear BK279; clear BK285; clear HB; have HO_275000 := n0_; have HO_280000 := n1_; have HO_286000 := n2_; have HO289 := n3_; have BK263 := n4_; have BK274 := n5_; have BK279 := n6_; have BK285 := n7_; have HB := n8_; clear n0_ n1_ n2_ n3_ n4_ n5_ n6_ n7_ n8_; (try clear hb); (try clear hb2); (try clear hk); (try clear hi)))
          go_meet
          case rel => exact ⟨_,(true),(by first | rfl | (simp; done) | (simp [*]; done)),H',⟨by have := HJ14.out; first | omega | exact Nat.le_refl _⟩,⟨by (with_reducible repeat (first | apply Kd.R_alloc | apply Kd.R_drewN | apply Kd.R_drew)); exact Kd.R_mono HO_275000.out (fun _ hk => ⟨hk.1,hk.2.1⟩)⟩,⟨by (with_reducible repeat (first | apply Kd.R_alloc | apply Kd.R_drewN | apply Kd.R_drew)); exact Kd.R_mono HO_280000.out (fun _ hk => ⟨hk.1.1,hk.1.2⟩)⟩,⟨by (with_reducible repeat (first | apply Kd.R_alloc | apply Kd.R_drewN | apply Kd.R_drew)); exact Kd.R_mono HO_286000.out (fun _ hk => ⟨hk.1,hk.2.1⟩)⟩,⟨kA BK263.out⟩,⟨kA BK274.out⟩,⟨kA BK279.out⟩,⟨kA BK285.out⟩,⟨bA⟩⟩
       case rest =>
        clear HC64
        try clear c1
        try clear c2
        try clear p2
        try clear c3
        try clear c4
        try clear c4b0
        try clear c4b1
        try clear c5
        try clear c6
        try clear c7
        try clear c7b0
        try clear c8
        try clear c9
        try clear c10
        try clear c11
        try clear c12
        try clear c25
        try clear c31
        try clear c32
        try clear c37
        try clear c38
        try clear c39
        try clear c42
        try clear c43
        try clear c44
        try clear c45
        try clear c47
        try clear c48
        try clear c51
        try clear c52
        try clear c53
        try clear c55
        try clear c56
        try clear c59
        try clear c62
        try clear c69
        try clear c70
        try clear c71
        try clear c74
        try clear c74b0
        try clear c76
        try clear c77
        try clear c78
        try clear c79
        try clear c81
        try clear c82
        try clear c85
        try clear c86
        try clear c87
        try clear c89
        try clear c90
        try clear hcz17_0
        try clear hcz17_1
        try clear hcz19_0
        try clear hcz19_1
        try clear hcz26_0
        try clear hcz26_1
        try clear hcz27_0
        try clear hcz27_1
        try clear hcz33_0
        try clear hcz33_1
        try clear hcz40_0
        try clear hcz40_1
        try clear hcz46_0
        try clear hcz46_1
        try clear hcz49_0
        try clear hcz49_1
        try clear hcz54_0
        try clear hcz54_1
        try clear hcz57_0
        try clear hcz57_1
        try clear hcz72_0
        try clear hcz72_1
        try clear hcz80_0
        try clear hcz80_1
        try clear hcz83_0
        try clear hcz83_1
        try clear hcz88_0
        try clear hcz88_1
        try clear hcz91_0
        try clear hcz91_1
        try clear hcz9_0
        try clear hcz9_1
        try clear hfz17_0
        try clear hfz17_1
        try clear hfz19_0
        try clear hfz19_1
        try clear hfz26_0
        try clear hfz26_1
        try clear hfz27_0
        try clear hfz27_1
        try clear hfz33_0
        try clear hfz33_1
        try clear hfz40_0
        try clear hfz40_1
        try clear hfz46_0
        try clear hfz46_1
        try clear hfz49_0
        try clear hfz49_1
        try clear hfz54_0
        try clear hfz54_1
        try clear hfz57_0
        try clear hfz57_1
        try clear hfz72_0
        try clear hfz72_1
        try clear hfz80_0
        try clear hfz80_1
        try clear hfz83_0
        try clear hfz83_1
        try clear hfz88_0
        try clear hfz88_1
        try clear hfz91_0
        try clear hfz91_1
        try clear hfz9_0
        try clear hfz9_1
        try clear p2
        obtain ⟨kq,x72_63,rfl,HA,HJ63,HO_275000,HO_280000,HO_286000,BK263,BK274,BK279,BK285,HB⟩ := hcut
        have hl280000_63 := (Kd.R_reads' HO_280000.out).1
        rw [hl280000_63] at HO_280000
        (try simp only [hl280000_63])
        (try simp only [hl280000_63] at BK263)
        (try simp only [hl280000_63] at BK274)
        (try simp only [hl280000_63] at BK279)
        (try simp only [hl280000_63] at BK285)
        (try simp only [hl280000_63] at HO_275000)
        (try simp only [hl280000_63] at HO_286000)
        cases kq with
        | zero => exact absurd HA.out (by simp [laws_FnExactDeleteVersion.j1])
        | succ kj63 =>
         have H := HA.out
         clear HA
         simp only [laws_FnExactDeleteVersion.j1] at H
         by_cases c93 : x72_63 = true
         ·subst c93
          rw [if_pos rfl] at H
          exact absurd H (by simp)
         ·replace c93 := Bool.eq_false_iff.mpr c93
          subst c93
          rw [if_neg (show ¬ (false = true) by decide)] at H
          replace H := Option.bind_eq_some_iff.mp H
          obtain ⟨⟨t295,t296⟩,A940,H⟩ := H
          try dsimp only at H
          have A94 := Aside0.mk A940
          clear A940
          replace H := Option.bind_eq_some_iff.mp H
          obtain ⟨t297,A950,H⟩ := H
          try dsimp only at H
          have A95 := Aside0.mk A950
          clear A950
          by_cases c96 : t297 < 0
          ·rw [if_pos c96] at H
           exact absurd H (by simp)
          ·rw [if_neg c96] at H
           have c96b0 : decide (t297 < 0) = false := decide_eq_false c96
           clear c96
           by_cases c97 : t297 = t295
           ·rw [if_pos c97] at H
            have c97b0 : (t297 == t295) = true := beq_iff_eq.mpr c97
            have c97b1 : (t297 != t295) = false := bne_eq_false_iff_eq.mpr c97
            clear c97
            replace H := Option.bind_eq_some_iff.mp H
            obtain ⟨⟨t298,t301⟩,A980,H⟩ := H
            try dsimp only at H
            have A98 := Aside0.mk A980
            clear A980
            replace H := Option.bind_eq_some_iff.mp H
            obtain ⟨⟨t302,t305,t306⟩,A990,H⟩ := H
            try dsimp only at H
            have A99 := Aside0.mk A990
            clear A990
            have HC100 := Aside0.mk H
            clear H
            have hnb101 := NB285_263.out
            have hnc101 := NB263_285.out
            have hnb102 := NB285_274.out
            have hnc102 := NB274_285.out
            have hnb103 := NB285_279.out
            have hnc103 := NB279_285.out
            have hcz104_0 : wc.cell? ⟨gb285,0,none⟩ = some (.slice Ao36 t280.length co36) := (blk_cell BK285.out 0).trans rfl
            have hcz104_1 : wc.cell? ⟨gb285,1,none⟩ = some (.int .i64 t283) := (blk_cell BK285.out 1).trans rfl
            have hfz104_0 := blk_frozen BK285.out 0
            have hfz104_1 := blk_frozen BK285.out 1
            go_upto_region 27 with (first | ((with_reducible refine gate_callee (f:=12) rfl ?_); refine goesL_ (some 75) rfl rfl Try.func12 (by kernel_rfl) rfl #[.agg #[.slice Ao36 t280.length co36,.int .i64 t283],.int .i64 1] rfl mA ?_; (with_reducible refine (laws_markStore.calls kj63 (fun k_ => some k_ = (.slice Ao36 t280.length co36 : Value).ownBlock) (.slice Ao36 t280.length co36) t280 t283 1 t295 t296 w _ ?side1 ?side2 A94.out).mono ?_); (case side1 => exact bA); (case side2 => exact Kd.R_tight rfl HO_286000.out); rintro e w105 ⟨rfl,hy0,hb,hkp⟩; refine ⟨_,rfl,?_⟩; have n0_ := Aside0.mk (Kd.R_mono (ok' := fun k_ => some k_ ≠ (.slice Ao30 t293.length co30 : Value).ownBlock ∧ some k_ ≠ (.slice Ao36 t280.length co36 : Value).ownBlock) (Kd.R_keptB (HO_275000.out) hkp (fun k_ hk_ hs_ => (hk_.2) hs_)) (fun k_ hk_ => ⟨hk_.1.1,hk_.1.2⟩)); have n1_ := Aside0.mk (Kd.R_mono (ok' := fun k_ => some k_ ≠ (.slice Ao24 t269.length co24 : Value).ownBlock ∧ some k_ ≠ (.slice Ao36 t280.length co36 : Value).ownBlock) (Kd.R_keptB (HO_280000.out) hkp (fun k_ hk_ hs_ => (hk_.2) hs_)) (fun k_ hk_ => ⟨hk_.1.1,hk_.1.2⟩)); have n2_ := Aside0.mk (Kd.R_reok rfl hy0 (fun k_ e_ => HO_286000.out.1 k_ e_)); have n3_ := Aside0.mk (blk_kept (kA BK263.out) hkp (fun hs_ => (fun e_ => (Kd.R_ne HO_286000.out BK263.out (by decide)) e_) hs_)); have n4_ := Aside0.mk (blk_kept (kA BK274.out) hkp (fun hs_ => (fun e_ => (Kd.R_ne HO_286000.out BK274.out (by decide)) e_) hs_)); have n5_ := Aside0.mk (blk_kept (kA BK279.out) hkp (fun hs_ => (fun e_ => (Kd.R_ne HO_286000.out BK279.out (by decide)) e_) hs_)); have n6_ := Aside0.mk (blk_kept (kA BK285.out) hkp (fun hs_ => (fun e_ => (Kd.R_ne HO_286000.out BK285.out (by decide)) e_) hs_)); have n7_ := Aside0.mk (hb); clear HO_275000; clear HO_280000; clear HO_286000; clear BK263; clear BK274; clear BK279; clear BK285; clear HB; have HO_275000 := n0_; have HO_280000 := n1_; have HO_286000 := n2_; have BK263 := n3_; have BK274 := n4_; have BK279 := n5_; have BK285 := n6_; have HB := n7_; clear n0_ n1_ n2_ n3_ n4_ n5_ n6_ n7_; (try clear hb); (try clear hkp); (try clear hy0); have hcz106_0 : w105.cell? ⟨gb285,0,none⟩ = some (.slice Ao36 t280.length co36) := (blk_cell BK285.out 0).trans rfl; have hcz106_1 : w105.cell? ⟨gb285,1,none⟩ = some (.int .i64 t283) := (blk_cell BK285.out 1).trans rfl; have hfz106_0 := blk_frozen BK285.out 0; have hfz106_1 := blk_frozen BK285.out 1) | ((with_reducible refine gate_callee (f:=13) rfl ?_); refine goesL_ (some 78) rfl rfl Try.func13 (by kernel_rfl) rfl #[.agg #[.slice Ao36 t296.length co36,.int .i64 t283],.int .i64 1] rfl (by (try simp only [List.map_toArray,List.map_cons,List.map_nil]); first | done | (rw [show t296.length = t280.length from (Kd.R_reads' HO_286000.out).1.symm] <;> rfl) | rfl | (simp only [List.length_drop,List.length_take]; rfl)) ?_; (with_reducible refine (laws_heldStore.calls kj63 _ _ t296 t283 1 t297 _ ?side1 ?side2 A95.out).mono ?_); (case side1 => repeat (first | exact (Kd.R_reads' HO_286000.out).2.2 | (with_reducible refine Kd.C_alloc ?_ _) | (with_reducible refine Kd.C_drewN ?_ _) | (with_reducible refine Kd.C_drew ?_))); (case side2 => rw [show t296.length = t280.length from (Kd.R_reads' HO_286000.out).1.symm]; exact (Kd.R_reads' HO_286000.out).2.1); rintro e w107 ⟨rfl,hb⟩; refine ⟨_,rfl,?_⟩; have n0_ := Aside0.mk (Kd.R_below (rA HO_275000.out) hb); have n1_ := Aside0.mk (Kd.R_below (rA HO_280000.out) hb); have n2_ := Aside0.mk (Kd.R_below (rA HO_286000.out) hb); have n3_ := Aside0.mk (blk_below (g:=gb263) (o:=.cells #[.slice A0_0 l0_0.length c0_0,.int .i64 a0_1] 24 (0,0)) (kA BK263.out) hb); have n4_ := Aside0.mk (blk_below (g:=gb274) (o:=.cells #[.slice Ao24 t269.length co24,.int .i64 t272] 28 (0,0)) (kA BK274.out) hb); have n5_ := Aside0.mk (blk_below (g:=gb279) (o:=.cells #[.slice Ao30 t293.length co30,.int .i64 t278] 28 (0,0)) (kA BK279.out) hb); have n6_ := Aside0.mk (blk_below (g:=gb285) (o:=.cells #[.slice Ao36 t280.length co36,.int .i64 t283] 28 (0,0)) (kA BK285.out) hb); have n7_ := Aside0.mk (below_step bA hb); clear HO_275000; clear HO_280000; clear HO_286000; clear BK263; clear BK274; clear BK279; clear BK285; clear HB; have HO_275000 := n0_; have HO_280000 := n1_; have HO_286000 := n2_; have BK263 := n3_; have BK274 := n4_; have BK279 := n5_; have BK285 := n6_; have HB := n7_; clear n0_ n1_ n2_ n3_ n4_ n5_ n6_ n7_; (try clear hb); (try clear hb2); (try clear hk); (try clear hi); have hnb108 := NB263_274.out; have hnc108 := NB274_263.out; have hnb109 := NB263_279.out; have hnc109 := NB279_263.out; have hcz110_0 : w107.cell? ⟨gb263,0,none⟩ = some (.slice A0_0 l0_0.length c0_0) := (blk_cell BK263.out 0).trans rfl; have hcz110_1 : w107.cell? ⟨gb263,1,none⟩ = some (.int .i64 a0_1) := (blk_cell BK263.out 1).trans rfl; have hfz110_0 := blk_frozen BK263.out 0; have hfz110_1 := blk_frozen BK263.out 1) | ((with_reducible refine gate_callee (f:=9) rfl ?_); refine goesL_ (some 86) rfl rfl Try.func9 (by kernel_rfl) rfl #[.agg #[.slice A0_0 l0_0.length c0_0,.int .i64 a0_1]] rfl mA ?_; (with_reducible refine (laws_toStore.calls kj63 _ _ l0_0 a0_1 t298 t301 _ ?side1 ?side2 A98.out).mono ?_); (case side1 => repeat (first | exact (Kd.C_below HR0_0.out HB.out) | (with_reducible refine Kd.C_alloc ?_ _) | (with_reducible refine Kd.C_drewN ?_ _) | (with_reducible refine Kd.C_drew ?_))); (case side2 => exact HC0_0.out); rintro e w111 ⟨v299,rfl,ho0,hb⟩; refine ⟨_,rfl,?_⟩; have n0_ := Aside0.mk (Kd.R_elder' (rA HO_275000.out) (Kd.R_base ho0) hb); have n1_ := Aside0.mk (Kd.R_elder' (rA HO_280000.out) (Kd.R_base ho0) hb); have n2_ := Aside0.mk (Kd.R_elder' (rA HO_286000.out) (Kd.R_base ho0) hb); have n3_ := Aside0.mk (Kd.R_lower (Kd.R_new' (Kd.R_new' (Kd.R_new' ho0 (Kd.R_lt (rA HO_275000.out))) (Kd.R_lt (rA HO_280000.out))) (Kd.R_lt (rA HO_286000.out))) (below_size bA)); have n4_ := Aside0.mk (blk_below (g:=gb263) (o:=.cells #[.slice A0_0 l0_0.length c0_0,.int .i64 a0_1] 24 (0,0)) (kA BK263.out) hb); have n5_ := Aside0.mk (blk_below (g:=gb274) (o:=.cells #[.slice Ao24 t269.length co24,.int .i64 t272] 28 (0,0)) (kA BK274.out) hb); have n6_ := Aside0.mk (blk_below (g:=gb279) (o:=.cells #[.slice Ao30 t293.length co30,.int .i64 t278] 28 (0,0)) (kA BK279.out) hb); have n7_ := Aside0.mk (blk_below (g:=gb285) (o:=.cells #[.slice Ao36 t280.length co36,.int .i64 t283] 28 (0,0)) (kA BK285.out) hb); have n8_ := Aside0.mk (below_step bA hb); clear HO_275000; clear HO_280000; clear HO_286000; clear BK263; clear BK274; clear BK279; clear BK285; clear HB; have HO_275000 := n0_; have HO_280000 := n1_; have HO_286000 := n2_; have HO300 := n3_; have BK263 := n4_; have BK274 := n5_; have BK279 := n6_; have BK285 := n7_; have HB := n8_; clear n0_ n1_ n2_ n3_ n4_ n5_ n6_ n7_ n8_; (try clear hb); (try clear hb2); (try clear hk); (try clear hi); (try clear ho0); obtain ⟨Ao112,co112,eo112⟩ := Kd.R_slice HO300.out; subst eo112) | ((with_reducible refine gate_callee (f:=10) rfl ?_); refine goesL_ (some 89) rfl rfl Try.func10 (by kernel_rfl) rfl #[.agg #[.slice Ao112 t298.length co112,.int .i64 t301],.string a1,.int .i64 a2] rfl mA ?_; (with_reducible refine (impl_DeleteVersion.calls kj63 _ _ t298 t301 a1 a2 t302 t305 t306 _ ?side1 ?side2 A99.out).mono ?_); (case side1 => repeat (first | exact (Kd.R_reads' HO300.out).2.2 | (with_reducible refine Kd.C_alloc ?_ _) | (with_reducible refine Kd.C_drewN ?_ _) | (with_reducible refine Kd.C_drew ?_))); (case side2 => exact (Kd.R_reads' HO300.out).2.1); rintro e w113 ⟨v303,rfl,ho0,hb⟩; refine ⟨_,rfl,?_⟩; have n0_ := Aside0.mk (Kd.R_elder' (rA HO_275000.out) (Kd.R_base ho0) hb); have n1_ := Aside0.mk (Kd.R_elder' (rA HO_280000.out) (Kd.R_base ho0) hb); have n2_ := Aside0.mk (Kd.R_elder' (rA HO_286000.out) (Kd.R_base ho0) hb); have n3_ := Aside0.mk (Kd.R_elder' (rA HO300.out) (Kd.R_base ho0) hb); have n4_ := Aside0.mk (Kd.R_lower (Kd.R_new' (Kd.R_new' (Kd.R_new' (Kd.R_new' ho0 (Kd.R_lt (rA HO_275000.out))) (Kd.R_lt (rA HO_280000.out))) (Kd.R_lt (rA HO_286000.out))) (Kd.R_lt (rA HO300.out))) (below_size bA)); have n5_ := Aside0.mk (blk_below (g:=gb263) (o:=.cells #[.slice A0_0 l0_0.length c0_0,.int .i64 a0_1] 24 (0,0)) (kA BK263.out) hb); have n6_ := Aside0.mk (blk_below (g:=gb274) (o:=.cells #[.slice Ao24 t269.length co24,.int .i64 t272] 28 (0,0)) (kA BK274.out) hb); have n7_ := Aside0.mk (blk_below (g:=gb279) (o:=.cells #[.slice Ao30 t293.length co30,.int .i64 t278] 28 (0,0)) (kA BK279.out) hb); have n8_ := Aside0.mk (blk_below (g:=gb285) (o:=.cells #[.slice Ao36 t280.length co36,.int .i64 t283] 28 (0,0)) (kA BK285.out) hb); have n9_ := Aside0.mk (below_step bA hb); clear HO_275000; clear HO_280000; clear HO_286000; clear HO300; clear BK263; clear BK274; clear BK279; clear BK285; clear HB; have HO_275000 := n0_; have HO_280000 := n1_; have HO_286000 := n2_; have HO300 := n3_; have HO304 := n4_; have BK263 := n5_; have BK274 := n6_; have BK279 := n7_; have BK285 := n8_; have HB := n9_; clear n0_ n1_ n2_ n3_ n4_ n5_ n6_ n7_ n8_ n9_; (try clear hb); (try clear hb2); (try clear hk); (try clear hi); (try clear ho0)) | ((with_reducible refine gate_dst (N:=16) rfl ?_); refine box_event ?hg (N:=16) ?hd (cs := #[.slice none 0 0,.int .i64 0]) (t:=28) ?hr ?_; (case hd => rfl); (case hg => rfl); (case hr => first | (go_simp; done) | (go_simp; rfl)); intro gb307 hg w114 hbox hb; have n0_ := Aside0.mk (Kd.R_below (rA HO_275000.out) hb); have n1_ := Aside0.mk (Kd.R_below (rA HO_280000.out) hb); have n2_ := Aside0.mk (Kd.R_below (rA HO_286000.out) hb); have n3_ := Aside0.mk (Kd.R_below (rA HO300.out) hb); have n4_ := Aside0.mk (Kd.R_below (rA HO304.out) hb); have n5_ := Aside0.mk (blk_below (g:=gb263) (o:=.cells #[.slice A0_0 l0_0.length c0_0,.int .i64 a0_1] 24 (0,0)) (kA BK263.out) hb); have n6_ := Aside0.mk (blk_below (g:=gb274) (o:=.cells #[.slice Ao24 t269.length co24,.int .i64 t272] 28 (0,0)) (kA BK274.out) hb); have n7_ := Aside0.mk (blk_below (g:=gb279) (o:=.cells #[.slice Ao30 t293.length co30,.int .i64 t278] 28 (0,0)) (kA BK279.out) hb); have n8_ := Aside0.mk (blk_below (g:=gb285) (o:=.cells #[.slice Ao36 t280.length co36,.int .i64 t283] 28 (0,0)) (kA BK285.out) hb); have n9_ := Aside0.mk (below_step bA hb); have n10_ := Aside0.mk (hbox); have n11_ := Aside0.mk ((by rw [hg]; exact (below_size bA) : w.heap.size ≤ gb307)); have n12_ := Aside0.mk ((by rw [hg]; exact (below_size bA) : w.heap.size ≤ gb307)); have n13_ := Aside0.mk ((by rw [hg]; exact Nat.ne_of_lt (blk_lt (g:=gb263) (o:=.cells #[.slice A0_0 l0_0.length c0_0,.int .i64 a0_1] 24 (0,0)) (kA BK263.out)) : gb263 ≠ gb307)); have n14_ := Aside0.mk ((by rw [hg]; exact Nat.ne_of_gt (blk_lt (g:=gb263) (o:=.cells #[.slice A0_0 l0_0.length c0_0,.int .i64 a0_1] 24 (0,0)) (kA BK263.out)) : gb307 ≠ gb263)); have n15_ := Aside0.mk ((by rw [hg]; exact Nat.ne_of_lt (blk_lt (g:=gb274) (o:=.cells #[.slice Ao24 t269.length co24,.int .i64 t272] 28 (0,0)) (kA BK274.out)) : gb274 ≠ gb307)); have n16_ := Aside0.mk ((by rw [hg]; exact Nat.ne_of_gt (blk_lt (g:=gb274) (o:=.cells #[.slice Ao24 t269.length co24,.int .i64 t272] 28 (0,0)) (kA BK274.out)) : gb307 ≠ gb274)); have n17_ := Aside0.mk ((by rw [hg]; exact Nat.ne_of_lt (blk_lt (g:=gb279) (o:=.cells #[.slice Ao30 t293.length co30,.int .i64 t278] 28 (0,0)) (kA BK279.out)) : gb279 ≠ gb307)); have n18_ := Aside0.mk ((by rw [hg]; exact Nat.ne_of_gt (blk_lt (g:=gb279) (o:=.cells #[.slice Ao30 t293.length co30,.int .i64 t278] 28 (0,0)) (kA BK279.out)) : gb307 ≠ gb279)); have n19_ := Aside0.mk ((by rw [hg]; exact Nat.ne_of_lt (blk_lt (g:=gb285) (o:=.cells #[.slice Ao36 t280.length co36,.int .i64 t283] 28 (0,0)) (kA BK285.out)) : gb285 ≠ gb307)); have n20_ := Aside0.mk ((by rw [hg]; exact Nat.ne_of_gt (blk_lt (g:=gb285) (o:=.cells #[.slice Ao36 t280.length co36,.int .i64 t283] 28 (0,0)) (kA BK285.out)) : gb307 ≠ gb285)); clear HO_275000; clear HO_280000; clear HO_286000; clear HO300; clear HO304; clear BK263; clear BK274; clear BK279; clear BK285; clear HB; have HO_275000 := n0_; have HO_280000 := n1_; have HO_286000 := n2_; have HO300 := n3_; have HO304 := n4_; have BK263 := n5_; have BK274 := n6_; have BK279 := n7_; have BK285 := n8_; have HB := n9_; have BK307 := n10_; have GW307 := n11_; have GE307 := n12_; have NB263_307 := n13_; have NB307_263 := n14_; have NB274_307 := n15_; have NB307_274 := n16_; have NB279_307 := n17_; have NB307_279 := n18_; have NB285_307 := n19_; have NB307_285 := n20_; clear n0_ n1_ n2_ n3_ n4_ n5_ n6_ n7_ n8_ n9_ n10_ n11_ n12_ n13_ n14_ n15_ n16_ n17_ n18_ n19_ n20_; clear hb hbox hg; obtain ⟨Ao115,co115,eo115⟩ := Kd.R_slice HO304.out; subst eo115; have hnb116 := NB307_263.out; have hnc116 := NB263_307.out; have hnb117 := NB307_274.out; have hnc117 := NB274_307.out; have hnb118 := NB307_279.out; have hnc118 := NB279_307.out; have hnb119 := NB307_285.out; have hnc119 := NB285_307.out; have hcz120_0 : w114.cell? ⟨gb307,0,none⟩ = some (.slice none 0 0) := (blk_cell BK307.out 0).trans rfl; have hcz120_1 : w114.cell? ⟨gb307,1,none⟩ = some (.int .i64 0) := (blk_cell BK307.out 1).trans rfl; have hfz120_0 := blk_frozen BK307.out 0; have hfz120_1 := blk_frozen BK307.out 1))
            (try simp only [Act.put,setIfInBounds_toArray,set_cons_zero,set_cons_succ])
            go_cut [100] (fun v100 wc => ∃ (kq : Nat) (x100_99 : Bool),v100 = .bool x100_99 ∧ Aside0 (laws_FnExactDeleteVersion.j2 kq t295 x100_99 t296 t283 = some r) ∧ Aside0 (kq ≤ kj63) ∧ Aside0 (Kd.R k71 71 wc w.heap.size (fun k_ => some k_ ≠ ((.slice Ao30 t293.length co30) : Value).ownBlock ∧ some k_ ≠ ((.slice Ao36 t280.length co36) : Value).ownBlock ∧ some k_ ≠ ((.slice Ao115 t302.length co115) : Value).ownBlock) (.slice Ao24 t269.length co24) t269) ∧ Aside0 (Kd.R k71 71 wc w.heap.size (fun k_ => some k_ ≠ ((.slice Ao24 t269.length co24) : Value).ownBlock ∧ some k_ ≠ ((.slice Ao36 t280.length co36) : Value).ownBlock ∧ some k_ ≠ ((.slice Ao115 t302.length co115) : Value).ownBlock) (.slice Ao30 t293.length co30) t293) ∧ Aside0 (Kd.R k71 71 wc w.heap.size (fun k_ => some k_ ≠ ((.slice Ao24 t269.length co24) : Value).ownBlock ∧ some k_ ≠ ((.slice Ao30 t293.length co30) : Value).ownBlock ∧ some k_ ≠ ((.slice Ao115 t302.length co115) : Value).ownBlock) (.slice Ao36 t280.length co36) t296) ∧ Aside0 (Kd.R k71 71 wc w.heap.size (fun k_ => some k_ ≠ ((.slice Ao24 t269.length co24) : Value).ownBlock ∧ some k_ ≠ ((.slice Ao30 t293.length co30) : Value).ownBlock ∧ some k_ ≠ ((.slice Ao36 t280.length co36) : Value).ownBlock) (.slice Ao115 t302.length co115) t302) ∧ Aside0 (wc.heap[gb263]? = some (.cells #[(.slice A0_0 l0_0.length c0_0),.int .i64 a0_1] 24 (0,0))) ∧ Aside0 (wc.heap[gb274]? = some (.cells #[(.slice Ao24 t269.length co24),.int .i64 t272] 28 (0,0))) ∧ Aside0 (wc.heap[gb279]? = some (.cells #[(.slice Ao30 t293.length co30),.int .i64 t278] 28 (0,0))) ∧ Aside0 (wc.heap[gb285]? = some (.cells #[(.slice Ao36 t280.length co36),.int .i64 t283] 28 (0,0))) ∧ Aside0 (wc.heap[gb307]? = some (.cells #[(.slice Ao115 t302.length co115),.int .i64 t305] 28 (0,0))) ∧ Aside0 (Below w.heap.size w wc))
            case first =>
             have H := HC100.out
             clear HC100
             replace H := Option.bind_eq_some_iff.mp H
             obtain ⟨t308,A1210,H⟩ := H
             try dsimp only at H
             have A121 := Aside0.mk A1210
             clear A1210
             by_cases c122 : t308 = true
             ·subst c122
              rw [if_pos rfl] at H
              have H' := Aside0.mk H
              clear H
              have hnb123 := NB307_263.out
              have hnc123 := NB263_307.out
              have hnb124 := NB307_274.out
              have hnc124 := NB274_307.out
              have hnb125 := NB307_279.out
              have hnc125 := NB279_307.out
              have hnb126 := NB307_285.out
              have hnc126 := NB285_307.out
              have hcz127_0 : w114.cell? ⟨gb307,0,none⟩ = some (.slice none 0 0) := (blk_cell BK307.out 0).trans rfl
              have hcz127_1 : w114.cell? ⟨gb307,1,none⟩ = some (.int .i64 0) := (blk_cell BK307.out 1).trans rfl
              have hfz127_0 := blk_frozen BK307.out 0
              have hfz127_1 := blk_frozen BK307.out 1
              have hnb128 := NB274_263.out
              have hnc128 := NB263_274.out
              have hnb129 := NB274_279.out
              have hnc129 := NB279_274.out
              have hnb130 := NB274_285.out
              have hnc130 := NB285_274.out
              have hcz131_0 : w114.cell? ⟨gb274,0,none⟩ = some (.slice Ao24 t269.length co24) := (blk_cell BK274.out 0).trans rfl
              have hcz131_1 : w114.cell? ⟨gb274,1,none⟩ = some (.int .i64 t272) := (blk_cell BK274.out 1).trans rfl
              have hfz131_0 := blk_frozen BK274.out 0
              have hfz131_1 := blk_frozen BK274.out 1
              go_wp2_with (first | ((with_reducible refine gate_callee (f:=11) rfl ?_); refine goesL_ (some 94) rfl rfl Try.func11 (by kernel_rfl) rfl #[.agg #[.slice Ao115 t302.length co115,.int .i64 t305],.agg #[.slice Ao24 t269.length co24,.int .i64 t272]] rfl mA ?_; (with_reducible refine (laws_eqStore.calls kj63 _ _ t302 t305 _ _ t269 t272 true _ ?side1 ?side2 ?side3 ?side4 A121.out).mono ?_); (case side1 => refine (Kd.R_reads' (e:=71) (base := w.heap.size) (ok := fun k_ => ((((True ∧ some k_ ≠ (.slice Ao24 t269.length co24 : Value).ownBlock) ∧ some k_ ≠ (.slice Ao30 t293.length co30 : Value).ownBlock) ∧ some k_ ≠ (.slice Ao36 t280.length co36 : Value).ownBlock) ∧ some k_ ≠ (.slice Ao112 t298.length co112 : Value).ownBlock)) (n:=t302.length) (c:=co115) ?_).2.2; exact (by (with_reducible repeat (first | apply Kd.R_alloc | apply Kd.R_drewN | apply Kd.R_drew)); exact (Kd.R_mono (Kd.R_far (p:=⟨gb307,1,none⟩) (Kd.R_far (p:=⟨gb307,0,none⟩) (Kd.R_types HO304.out BK307.out (by decide)) (fun _ hk => hk.2) (.slice Ao115 t302.length co115)) (fun _ hk => hk.2) (.int .i64 t305)) (fun _ h_ => h_.1)))); (case side2 => exact (Kd.R_reads' HO304.out).2.1); (case side3 => refine (Kd.R_reads' (e:=71) (base := w.heap.size) (ok := fun k_ => (((some k_ ≠ (.slice Ao30 t293.length co30 : Value).ownBlock ∧ some k_ ≠ (.slice Ao36 t280.length co36 : Value).ownBlock) ∧ some k_ ≠ (.slice Ao112 t298.length co112 : Value).ownBlock) ∧ some k_ ≠ (.slice Ao115 t302.length co115 : Value).ownBlock)) (n:=t269.length) (c:=co24) ?_).2.2; exact (by (with_reducible repeat (first | apply Kd.R_alloc | apply Kd.R_drewN | apply Kd.R_drew)); exact (Kd.R_mono (Kd.R_far (p:=⟨gb307,1,none⟩) (Kd.R_far (p:=⟨gb307,0,none⟩) (Kd.R_types HO_275000.out BK307.out (by decide)) (fun _ hk => hk.2) (.slice Ao115 t302.length co115)) (fun _ hk => hk.2) (.int .i64 t305)) (fun _ h_ => h_.1)))); (case side4 => exact (Kd.R_reads' HO_275000.out).2.1); rintro e w132 ⟨rfl,hb⟩; refine ⟨_,rfl,?_⟩; have n0_ := Aside0.mk (Kd.R_below (by (with_reducible repeat (first | apply Kd.R_alloc | apply Kd.R_drewN | apply Kd.R_drew)); exact (Kd.R_mono (Kd.R_far (p:=⟨gb307,1,none⟩) (Kd.R_far (p:=⟨gb307,0,none⟩) (Kd.R_types HO_275000.out BK307.out (by decide)) (fun _ hk => hk.2) (.slice Ao115 t302.length co115)) (fun _ hk => hk.2) (.int .i64 t305)) (fun _ h_ => h_.1))) hb); have n1_ := Aside0.mk (Kd.R_below (by (with_reducible repeat (first | apply Kd.R_alloc | apply Kd.R_drewN | apply Kd.R_drew)); exact (Kd.R_mono (Kd.R_far (p:=⟨gb307,1,none⟩) (Kd.R_far (p:=⟨gb307,0,none⟩) (Kd.R_types HO_280000.out BK307.out (by decide)) (fun _ hk => hk.2) (.slice Ao115 t302.length co115)) (fun _ hk => hk.2) (.int .i64 t305)) (fun _ h_ => h_.1))) hb); have n2_ := Aside0.mk (Kd.R_below (by (with_reducible repeat (first | apply Kd.R_alloc | apply Kd.R_drewN | apply Kd.R_drew)); exact (Kd.R_mono (Kd.R_far (p:=⟨gb307,1,none⟩) (Kd.R_far (p:=⟨gb307,0,none⟩) (Kd.R_types HO_286000.out BK307.out (by decide)) (fun _ hk => hk.2) (.slice Ao115 t302.length co115)) (fun _ hk => hk.2) (.int .i64 t305)) (fun _ h_ => h_.1))) hb); have n3_ := Aside0.mk (Kd.R_below (by (with_reducible repeat (first | apply Kd.R_alloc | apply Kd.R_drewN | apply Kd.R_drew)); exact (Kd.R_mono (Kd.R_far (p:=⟨gb307,1,none⟩) (Kd.R_far (p:=⟨gb307,0,none⟩) (Kd.R_types HO300.out BK307.out (by decide)) (fun _ hk => hk.2) (.slice Ao115 t302.length co115)) (fun _ hk => hk.2) (.int .i64 t305)) (fun _ h_ => h_.1))) hb); have n4_ := Aside0.mk (Kd.R_below (by (with_reducible repeat (first | apply Kd.R_alloc | apply Kd.R_drewN | apply Kd.R_drew)); exact (Kd.R_mono (Kd.R_far (p:=⟨gb307,1,none⟩) (Kd.R_far (p:=⟨gb307,0,none⟩) (Kd.R_types HO304.out BK307.out (by decide)) (fun _ hk => hk.2) (.slice Ao115 t302.length co115)) (fun _ hk => hk.2) (.int .i64 t305)) (fun _ h_ => h_.1))) hb); have n5_ := Aside0.mk (blk_below (g:=gb263) (o:=.cells #[.slice A0_0 l0_0.length c0_0,.int .i64 a0_1] 24 (0,0)) (kF BK263.out) hb); have n6_ := Aside0.mk (blk_below (g:=gb274) (o:=.cells #[.slice Ao24 t269.length co24,.int .i64 t272] 28 (0,0)) (kF BK274.out) hb); have n7_ := Aside0.mk (blk_below (g:=gb279) (o:=.cells #[.slice Ao30 t293.length co30,.int .i64 t278] 28 (0,0)) (kF BK279.out) hb); have n8_ := Aside0.mk (blk_below (g:=gb285) (o:=.cells #[.slice Ao36 t280.length co36,.int .i64 t283] 28 (0,0)) (kF BK285.out) hb); have n9_ := Aside0.mk (blk_below (g:=gb307) (o:=.cells #[.slice Ao115 t302.length co115,.int .i64 t305] 28 (0,0)) (by (with_reducible repeat (first | refine blk_drewN ?_ _ | refine blk_drew ?_ | refine blk_alloc ?_ _)); refine blk_put (cs := #[.slice Ao115 t302.length co115,.int .i64 0]) ?_ 1 _ rfl; (with_reducible repeat (first | refine blk_drewN ?_ _ | refine blk_drew ?_ | refine blk_alloc ?_ _)); refine blk_put (cs := #[.slice none 0 0,.int .i64 0]) ?_ 0 _ rfl; (with_reducible repeat (first | refine blk_drewN ?_ _ | refine blk_drew ?_ | refine blk_alloc ?_ _)); exact BK307.out) hb); have n10_ := Aside0.mk (below_step bA hb); clear HO_275000; clear HO_280000; clear HO_286000; clear HO300; clear HO304; clear BK263; clear BK274; clear BK279; clear BK285; clear BK307; clear HB; have HO_275000 := n0_; have HO_280000 := n1_; have HO_286000 := n2_; have HO300 := n3_; have HO304 := n4_; have BK263 := n5_; have BK274 := n6_; have BK279 := n7_; have BK285 := n8_; have BK307 := n9_; have HB := n10_; clear n0_ n1_ n2_ n3_ n4_ n5_ n6_ n7_ n8_ n9_ n10_; (try clear hb); (try clear hb2); (try clear hk); (try clear hi)))
              go_meet
              case rel => exact ⟨_,((t306 != t273)),(by first | rfl | (simp; done) | (simp [*]; done)),H',⟨by have := HJ14.out; have := HJ63.out; first | omega | exact Nat.le_refl _⟩,⟨by (try simp only [hl280000_63]); (with_reducible repeat (first | apply Kd.R_alloc | apply Kd.R_drewN | apply Kd.R_drew)); exact Kd.R_mono HO_275000.out (fun _ hk => ⟨hk.1.1.1,⟨hk.1.1.2,hk.2⟩⟩)⟩,⟨by (try simp only [hl280000_63]); (with_reducible repeat (first | apply Kd.R_alloc | apply Kd.R_drewN | apply Kd.R_drew)); exact Kd.R_mono HO_280000.out (fun _ hk => ⟨hk.1.1.1,⟨hk.1.1.2,hk.2⟩⟩)⟩,⟨by (try simp only [hl280000_63]); (with_reducible repeat (first | apply Kd.R_alloc | apply Kd.R_drewN | apply Kd.R_drew)); exact Kd.R_mono HO_286000.out (fun _ hk => ⟨hk.1.1.1,⟨hk.1.1.2,hk.2⟩⟩)⟩,⟨by (try simp only [hl280000_63]); (with_reducible repeat (first | apply Kd.R_alloc | apply Kd.R_drewN | apply Kd.R_drew)); exact Kd.R_mono HO304.out (fun _ hk => ⟨hk.1.1.1.2,⟨hk.1.1.2,hk.1.2⟩⟩)⟩,⟨by (try simp only [hl280000_63]); (with_reducible repeat (first | refine blk_drewN ?_ _ | refine blk_drew ?_ | refine blk_alloc ?_ _)); exact BK263.out⟩,⟨by (try simp only [hl280000_63]); (with_reducible repeat (first | refine blk_drewN ?_ _ | refine blk_drew ?_ | refine blk_alloc ?_ _)); exact BK274.out⟩,⟨by (try simp only [hl280000_63]); (with_reducible repeat (first | refine blk_drewN ?_ _ | refine blk_drew ?_ | refine blk_alloc ?_ _)); exact BK279.out⟩,⟨by (try simp only [hl280000_63]); (with_reducible repeat (first | refine blk_drewN ?_ _ | refine blk_drew ?_ | refine blk_alloc ?_ _)); exact BK285.out⟩,⟨by (try simp only [hl280000_63]); (with_reducible repeat (first | refine blk_drewN ?_ _ | refine blk_drew ?_ | refine blk_alloc ?_ _)); exact BK307.out⟩,⟨bA⟩⟩
             ·replace c122 := Bool.eq_false_iff.mpr c122
              subst c122
              rw [if_neg (show ¬ (false = true) by decide)] at H
              have H' := Aside0.mk H
              clear H
              have hnb133 := NB307_263.out
              have hnc133 := NB263_307.out
              have hnb134 := NB307_274.out
              have hnc134 := NB274_307.out
              have hnb135 := NB307_279.out
              have hnc135 := NB279_307.out
              have hnb136 := NB307_285.out
              have hnc136 := NB285_307.out
              have hcz137_0 : w114.cell? ⟨gb307,0,none⟩ = some (.slice none 0 0) := (blk_cell BK307.out 0).trans rfl
              have hcz137_1 : w114.cell? ⟨gb307,1,none⟩ = some (.int .i64 0) := (blk_cell BK307.out 1).trans rfl
              have hfz137_0 := blk_frozen BK307.out 0
              have hfz137_1 := blk_frozen BK307.out 1
              have hnb138 := NB274_263.out
              have hnc138 := NB263_274.out
              have hnb139 := NB274_279.out
              have hnc139 := NB279_274.out
              have hnb140 := NB274_285.out
              have hnc140 := NB285_274.out
              have hcz141_0 : w114.cell? ⟨gb274,0,none⟩ = some (.slice Ao24 t269.length co24) := (blk_cell BK274.out 0).trans rfl
              have hcz141_1 : w114.cell? ⟨gb274,1,none⟩ = some (.int .i64 t272) := (blk_cell BK274.out 1).trans rfl
              have hfz141_0 := blk_frozen BK274.out 0
              have hfz141_1 := blk_frozen BK274.out 1
              go_wp2_with (first | ((with_reducible refine gate_callee (f:=11) rfl ?_); refine goesL_ (some 94) rfl rfl Try.func11 (by kernel_rfl) rfl #[.agg #[.slice Ao115 t302.length co115,.int .i64 t305],.agg #[.slice Ao24 t269.length co24,.int .i64 t272]] rfl mA ?_; (with_reducible refine (laws_eqStore.calls kj63 _ _ t302 t305 _ _ t269 t272 false _ ?side1 ?side2 ?side3 ?side4 A121.out).mono ?_); (case side1 => refine (Kd.R_reads' (e:=71) (base := w.heap.size) (ok := fun k_ => ((((True ∧ some k_ ≠ (.slice Ao24 t269.length co24 : Value).ownBlock) ∧ some k_ ≠ (.slice Ao30 t293.length co30 : Value).ownBlock) ∧ some k_ ≠ (.slice Ao36 t280.length co36 : Value).ownBlock) ∧ some k_ ≠ (.slice Ao112 t298.length co112 : Value).ownBlock)) (n:=t302.length) (c:=co115) ?_).2.2; exact (by (with_reducible repeat (first | apply Kd.R_alloc | apply Kd.R_drewN | apply Kd.R_drew)); exact (Kd.R_mono (Kd.R_far (p:=⟨gb307,1,none⟩) (Kd.R_far (p:=⟨gb307,0,none⟩) (Kd.R_types HO304.out BK307.out (by decide)) (fun _ hk => hk.2) (.slice Ao115 t302.length co115)) (fun _ hk => hk.2) (.int .i64 t305)) (fun _ h_ => h_.1)))); (case side2 => exact (Kd.R_reads' HO304.out).2.1); (case side3 => refine (Kd.R_reads' (e:=71) (base := w.heap.size) (ok := fun k_ => (((some k_ ≠ (.slice Ao30 t293.length co30 : Value).ownBlock ∧ some k_ ≠ (.slice Ao36 t280.length co36 : Value).ownBlock) ∧ some k_ ≠ (.slice Ao112 t298.length co112 : Value).ownBlock) ∧ some k_ ≠ (.slice Ao115 t302.length co115 : Value).ownBlock)) (n:=t269.length) (c:=co24) ?_).2.2; exact (by (with_reducible repeat (first | apply Kd.R_alloc | apply Kd.R_drewN | apply Kd.R_drew)); exact (Kd.R_mono (Kd.R_far (p:=⟨gb307,1,none⟩) (Kd.R_far (p:=⟨gb307,0,none⟩) (Kd.R_types HO_275000.out BK307.out (by decide)) (fun _ hk => hk.2) (.slice Ao115 t302.length co115)) (fun _ hk => hk.2) (.int .i64 t305)) (fun _ h_ => h_.1)))); (case side4 => exact (Kd.R_reads' HO_275000.out).2.1); rintro e w142 ⟨rfl,hb⟩; refine ⟨_,rfl,?_⟩; have n0_ := Aside0.mk (Kd.R_below (by (with_reducible repeat (first | apply Kd.R_alloc | apply Kd.R_drewN | apply Kd.R_drew)); exact (Kd.R_mono (Kd.R_far (p:=⟨gb307,1,none⟩) (Kd.R_far (p:=⟨gb307,0,none⟩) (Kd.R_types HO_275000.out BK307.out (by decide)) (fun _ hk => hk.2) (.slice Ao115 t302.length co115)) (fun _ hk => hk.2) (.int .i64 t305)) (fun _ h_ => h_.1))) hb); have n1_ := Aside0.mk (Kd.R_below (by (with_reducible repeat (first | apply Kd.R_alloc | apply Kd.R_drewN | apply Kd.R_drew)); exact (Kd.R_mono (Kd.R_far (p:=⟨gb307,1,none⟩) (Kd.R_far (p:=⟨gb307,0,none⟩) (Kd.R_types HO_280000.out BK307.out (by decide)) (fun _ hk => hk.2) (.slice Ao115 t302.length co115)) (fun _ hk => hk.2) (.int .i64 t305)) (fun _ h_ => h_.1))) hb); have n2_ := Aside0.mk (Kd.R_below (by (with_reducible repeat (first | apply Kd.R_alloc | apply Kd.R_drewN | apply Kd.R_drew)); exact (Kd.R_mono (Kd.R_far (p:=⟨gb307,1,none⟩) (Kd.R_far (p:=⟨gb307,0,none⟩) (Kd.R_types HO_286000.out BK307.out (by decide)) (fun _ hk => hk.2) (.slice Ao115 t302.length co115)) (fun _ hk => hk.2) (.int .i64 t305)) (fun _ h_ => h_.1))) hb); have n3_ := Aside0.mk (Kd.R_below (by (with_reducible repeat (first | apply Kd.R_alloc | apply Kd.R_drewN | apply Kd.R_drew)); exact (Kd.R_mono (Kd.R_far (p:=⟨gb307,1,none⟩) (Kd.R_far (p:=⟨gb307,0,none⟩) (Kd.R_types HO300.out BK307.out (by decide)) (fun _ hk => hk.2) (.slice Ao115 t302.length co115)) (fun _ hk => hk.2) (.int .i64 t305)) (fun _ h_ => h_.1))) hb); have n4_ := Aside0.mk (Kd.R_below (by (with_reducible repeat (first | apply Kd.R_alloc | apply Kd.R_drewN | apply Kd.R_drew)); exact (Kd.R_mono (Kd.R_far (p:=⟨gb307,1,none⟩) (Kd.R_far (p:=⟨gb307,0,none⟩) (Kd.R_types HO304.out BK307.out (by decide)) (fun _ hk => hk.2) (.slice Ao115 t302.length co115)) (fun _ hk => hk.2) (.int .i64 t305)) (fun _ h_ => h_.1))) hb); have n5_ := Aside0.mk (blk_below (g:=gb263) (o:=.cells #[.slice A0_0 l0_0.length c0_0,.int .i64 a0_1] 24 (0,0)) (kF BK263.out) hb); have n6_ := Aside0.mk (blk_below (g:=gb274) (o:=.cells #[.slice Ao24 t269.length co24,.int .i64 t272] 28 (0,0)) (kF BK274.out) hb); have n7_ := Aside0.mk (blk_below (g:=gb279) (o:=.cells #[.slice Ao30 t293.length co30,.int .i64 t278] 28 (0,0)) (kF BK279.out) hb); have n8_ := Aside0.mk (blk_below (g:=gb285) (o:=.cells #[.slice Ao36 t280.length co36,.int .i64 t283] 28 (0,0)) (kF BK285.out) hb); have n9_ := Aside0.mk (blk_below (g:=gb307) (o:=.cells #[.slice Ao115 t302.length co115,.int .i64 t305] 28 (0,0)) (by (with_reducible repeat (first | refine blk_drewN ?_ _ | refine blk_drew ?_ | refine blk_alloc ?_ _)); refine blk_put (cs := #[.slice Ao115 t302.length co115,.int .i64 0]) ?_ 1 _ rfl; (with_reducible repeat (first | refine blk_drewN ?_ _ | refine blk_drew ?_ | refine blk_alloc ?_ _)); refine blk_put (cs := #[.slice none 0 0,.int .i64 0]) ?_ 0 _ rfl; (with_reducible repeat (first | refine blk_drewN ?_ _ | refine blk_drew ?_ | refine blk_alloc ?_ _)); exact BK307.out) hb); have n10_ := Aside0.mk (below_step bA hb); clear HO_275000; clear HO_280000; clear HO_286000; clear HO300; clear HO304; clear BK263; clear BK274; clear BK279; clear BK285; clear BK307; clear HB; have HO_275000 := n0_; have HO_280000 := n1_; have HO_286000 := n2_; have HO300 := n3_; have HO304 := n4_; have BK263 := n5_; have BK274 := n6_; have BK279 := n7_; have BK285 := n8_; have BK307 := n9_; have HB := n10_; clear n0_ n1_ n2_ n3_ n4_ n5_ n6_ n7_ n8_ n9_ n10_; (try clear hb); (try clear hb2); (try clear hk); (try clear hi)))
              go_meet
              case rel => exact ⟨_,(true),(by first | rfl | (simp; done) | (simp [*]; done)),H',⟨by have := HJ14.out; have := HJ63.out; first | omega | exact Nat.le_refl _⟩,⟨by (try simp only [hl280000_63]); (with_reducible repeat (first | apply Kd.R_alloc | apply Kd.R_drewN | apply Kd.R_drew)); exact Kd.R_mono HO_275000.out (fun _ hk => ⟨hk.1.1.1,⟨hk.1.1.2,hk.2⟩⟩)⟩,⟨by (try simp only [hl280000_63]); (with_reducible repeat (first | apply Kd.R_alloc | apply Kd.R_drewN | apply Kd.R_drew)); exact Kd.R_mono HO_280000.out (fun _ hk => ⟨hk.1.1.1,⟨hk.1.1.2,hk.2⟩⟩)⟩,⟨by (try simp only [hl280000_63]); (with_reducible repeat (first | apply Kd.R_alloc | apply Kd.R_drewN | apply Kd.R_drew)); exact Kd.R_mono HO_286000.out (fun _ hk => ⟨hk.1.1.1,⟨hk.1.1.2,hk.2⟩⟩)⟩,⟨by (try simp only [hl280000_63]); (with_reducible repeat (first | apply Kd.R_alloc | apply Kd.R_drewN | apply Kd.R_drew)); exact Kd.R_mono HO304.out (fun _ hk => ⟨hk.1.1.1.2,⟨hk.1.1.2,hk.1.2⟩⟩)⟩,⟨by (try simp only [hl280000_63]); (with_reducible repeat (first | refine blk_drewN ?_ _ | refine blk_drew ?_ | refine blk_alloc ?_ _)); exact BK263.out⟩,⟨by (try simp only [hl280000_63]); (with_reducible repeat (first | refine blk_drewN ?_ _ | refine blk_drew ?_ | refine blk_alloc ?_ _)); exact BK274.out⟩,⟨by (try simp only [hl280000_63]); (with_reducible repeat (first | refine blk_drewN ?_ _ | refine blk_drew ?_ | refine blk_alloc ?_ _)); exact BK279.out⟩,⟨by (try simp only [hl280000_63]); (with_reducible repeat (first | refine blk_drewN ?_ _ | refine blk_drew ?_ | refine blk_alloc ?_ _)); exact BK285.out⟩,⟨by (try simp only [hl280000_63]); (with_reducible repeat (first | refine blk_drewN ?_ _ | refine blk_drew ?_ | refine blk_alloc ?_ _)); exact BK307.out⟩,⟨bA⟩⟩
            case rest =>
             clear HC100
             try clear c1
             try clear c2
             try clear p2
             try clear c3
             try clear c4
             try clear c4b0
             try clear c4b1
             try clear c5
             try clear c6
             try clear c7
             try clear c7b0
             try clear c8
             try clear c9
             try clear c10
             try clear c11
             try clear c12
             try clear c13
             try clear c14
             try clear c25
             try clear c31
             try clear c32
             try clear c37
             try clear c38
             try clear c39
             try clear c42
             try clear c43
             try clear c44
             try clear c45
             try clear c47
             try clear c48
             try clear c51
             try clear c52
             try clear c53
             try clear c55
             try clear c56
             try clear c59
             try clear c62
             try clear c69
             try clear c70
             try clear c71
             try clear c74
             try clear c74b0
             try clear c76
             try clear c77
             try clear c78
             try clear c79
             try clear c81
             try clear c82
             try clear c85
             try clear c86
             try clear c87
             try clear c89
             try clear c90
             try clear c93
             try clear c96
             try clear c96b0
             try clear c97
             try clear c97b0
             try clear c97b1
             try clear c101
             try clear c102
             try clear c103
             try clear c108
             try clear c109
             try clear c116
             try clear c117
             try clear c118
             try clear c119
             try clear c122
             try clear c123
             try clear c124
             try clear c125
             try clear c126
             try clear c128
             try clear c129
             try clear c130
             try clear c133
             try clear c134
             try clear c135
             try clear c136
             try clear c138
             try clear c139
             try clear c140
             try clear hcz104_0
             try clear hcz104_1
             try clear hcz106_0
             try clear hcz106_1
             try clear hcz110_0
             try clear hcz110_1
             try clear hcz120_0
             try clear hcz120_1
             try clear hcz127_0
             try clear hcz127_1
             try clear hcz131_0
             try clear hcz131_1
             try clear hcz137_0
             try clear hcz137_1
             try clear hcz141_0
             try clear hcz141_1
             try clear hcz17_0
             try clear hcz17_1
             try clear hcz19_0
             try clear hcz19_1
             try clear hcz26_0
             try clear hcz26_1
             try clear hcz27_0
             try clear hcz27_1
             try clear hcz33_0
             try clear hcz33_1
             try clear hcz40_0
             try clear hcz40_1
             try clear hcz46_0
             try clear hcz46_1
             try clear hcz49_0
             try clear hcz49_1
             try clear hcz54_0
             try clear hcz54_1
             try clear hcz57_0
             try clear hcz57_1
             try clear hcz72_0
             try clear hcz72_1
             try clear hcz80_0
             try clear hcz80_1
             try clear hcz83_0
             try clear hcz83_1
             try clear hcz88_0
             try clear hcz88_1
             try clear hcz91_0
             try clear hcz91_1
             try clear hcz9_0
             try clear hcz9_1
             try clear hfz104_0
             try clear hfz104_1
             try clear hfz106_0
             try clear hfz106_1
             try clear hfz110_0
             try clear hfz110_1
             try clear hfz120_0
             try clear hfz120_1
             try clear hfz127_0
             try clear hfz127_1
             try clear hfz131_0
             try clear hfz131_1
             try clear hfz137_0
             try clear hfz137_1
             try clear hfz141_0
             try clear hfz141_1
             try clear hfz17_0
             try clear hfz17_1
             try clear hfz19_0
             try clear hfz19_1
             try clear hfz26_0
             try clear hfz26_1
             try clear hfz27_0
             try clear hfz27_1
             try clear hfz33_0
             try clear hfz33_1
             try clear hfz40_0
             try clear hfz40_1
             try clear hfz46_0
             try clear hfz46_1
             try clear hfz49_0
             try clear hfz49_1
             try clear hfz54_0
             try clear hfz54_1
             try clear hfz57_0
             try clear hfz57_1
             try clear hfz72_0
             try clear hfz72_1
             try clear hfz80_0
             try clear hfz80_1
             try clear hfz83_0
             try clear hfz83_1
             try clear hfz88_0
             try clear hfz88_1
             try clear hfz91_0
             try clear hfz91_1
             try clear hfz9_0
             try clear hfz9_1
             try clear p2
             obtain ⟨kq,x100_99,rfl,HA,HJ99,HO_275000,HO_280000,HO_286000,HO_308000,BK263,BK274,BK279,BK285,BK307,HB⟩ := hcut
             have hl286000_99 := (Kd.R_reads' HO_286000.out).1
             rw [hl286000_99] at HO_286000
             (try simp only [hl286000_99])
             (try simp only [hl286000_99] at BK263)
             (try simp only [hl286000_99] at BK274)
             (try simp only [hl286000_99] at BK279)
             (try simp only [hl286000_99] at BK285)
             (try simp only [hl286000_99] at BK307)
             (try simp only [hl286000_99] at HO_275000)
             (try simp only [hl286000_99] at HO_280000)
             (try simp only [hl286000_99] at HO_308000)
             cases kq with
             | zero => exact absurd HA.out (by simp [laws_FnExactDeleteVersion.j2])
             | succ kj99 =>
              have H := HA.out
              clear HA
              simp only [laws_FnExactDeleteVersion.j2] at H
              by_cases c143 : x100_99 = true
              ·subst c143
               rw [if_pos rfl] at H
               exact absurd H (by simp)
              ·replace c143 := Bool.eq_false_iff.mpr c143
               subst c143
               rw [if_neg (show ¬ (false = true) by decide)] at H
               replace H := Option.bind_eq_some_iff.mp H
               obtain ⟨t309,A1440,H⟩ := H
               try dsimp only at H
               have A144 := Aside0.mk A1440
               clear A1440
               by_cases c145 : t309 < 0
               ·rw [if_pos c145] at H
                exact absurd H (by simp)
               ·rw [if_neg c145] at H
                have c145b0 : decide (t309 < 0) = false := decide_eq_false c145
                clear c145
                by_cases c146 : t309 = t295
                ·rw [if_pos c146] at H
                 have c146b0 : (t309 == t295) = true := beq_iff_eq.mpr c146
                 have c146b1 : (t309 != t295) = false := bne_eq_false_iff_eq.mpr c146
                 clear c146
                 obtain rfl := Option.some.inj H
                 have hnb147 := NB285_263.out
                 have hnc147 := NB263_285.out
                 have hnb148 := NB285_274.out
                 have hnc148 := NB274_285.out
                 have hnb149 := NB285_279.out
                 have hnc149 := NB279_285.out
                 have hnb150 := NB285_307.out
                 have hnc150 := NB307_285.out
                 have hcz151_0 : wc.cell? ⟨gb285,0,none⟩ = some (.slice Ao36 t296.length co36) := (blk_cell BK285.out 0).trans rfl
                 have hcz151_1 : wc.cell? ⟨gb285,1,none⟩ = some (.int .i64 t283) := (blk_cell BK285.out 1).trans rfl
                 have hfz151_0 := blk_frozen BK285.out 0
                 have hfz151_1 := blk_frozen BK285.out 1
                 go_wp2_with (first | ((with_reducible refine gate_callee (f:=13) rfl ?_); refine goesL_ (some 103) rfl rfl Try.func13 (by kernel_rfl) rfl #[.agg #[.slice Ao36 t296.length co36,.int .i64 t283],.int .i64 1] rfl mA ?_; (with_reducible refine (laws_heldStore.calls kj99 _ _ t296 t283 1 t309 _ ?side1 ?side2 A144.out).mono ?_); (case side1 => repeat (first | exact (Kd.R_reads' HO_286000.out).2.2 | (with_reducible refine Kd.C_alloc ?_ _) | (with_reducible refine Kd.C_drewN ?_ _) | (with_reducible refine Kd.C_drew ?_))); (case side2 => exact (Kd.R_reads' HO_286000.out).2.1); rintro e w152 ⟨rfl,hb⟩; refine ⟨_,rfl,?_⟩; have n0_ := Aside0.mk (Kd.R_below (rA HO_275000.out) hb); have n1_ := Aside0.mk (Kd.R_below (rA HO_280000.out) hb); have n2_ := Aside0.mk (Kd.R_below (rA HO_286000.out) hb); have n3_ := Aside0.mk (Kd.R_below (rA HO_308000.out) hb); have n4_ := Aside0.mk (blk_below (g:=gb263) (o:=.cells #[.slice A0_0 l0_0.length c0_0,.int .i64 a0_1] 24 (0,0)) (kA BK263.out) hb); have n5_ := Aside0.mk (blk_below (g:=gb274) (o:=.cells #[.slice Ao24 t269.length co24,.int .i64 t272] 28 (0,0)) (kA BK274.out) hb); have n6_ := Aside0.mk (blk_below (g:=gb279) (o:=.cells #[.slice Ao30 t293.length co30,.int .i64 t278] 28 (0,0)) (kA BK279.out) hb); have n7_ := Aside0.mk (blk_below (g:=gb285) (o:=.cells #[.slice Ao36 t296.length co36,.int .i64 t283] 28 (0,0)) (kA BK285.out) hb); have n8_ := Aside0.mk (blk_below (g:=gb307) (o:=.cells #[.slice Ao115 t302.length co115,.int .i64 t305] 28 (0,0)) (kA BK307.out) hb); have n9_ := Aside0.mk (below_step bA hb); clear HO_275000; clear HO_280000; clear HO_286000; clear HO_308000; clear BK263; clear BK274; clear BK279; clear BK285; clear BK307; clear HB; have HO_275000 := n0_; have HO_280000 := n1_; have HO_286000 := n2_; have HO_308000 := n3_; have BK263 := n4_; have BK274 := n5_; have BK279 := n6_; have BK285 := n7_; have BK307 := n8_; have HB := n9_; clear n0_ n1_ n2_ n3_ n4_ n5_ n6_ n7_ n8_ n9_; (try clear hb); (try clear hb2); (try clear hk); (try clear hi)))
                 go_ret
                 exact ⟨by first | rfl | (simp [errW_none,errW_some] <;> rfl) | (simp [*,errW_none,errW_some] <;> rfl),bA⟩
                ·rw [if_neg c146] at H
                 exact absurd H (by simp)
           ·rw [if_neg c97] at H
            exact absurd H (by simp)
      ·replace c62 := Bool.eq_false_iff.mpr c62
       subst c62
       rw [if_neg (show ¬ (false = true) by decide)] at H
       exact absurd H (by simp)

end Go.Proofs.Ytbodkbaniebfaaa.XFnExactDeleteVersion
