-- Printed by this session's own program wip/tools/xprint.py, which widens the kit's print. Not trusted: Lean checks it.
import Derived.Test.YtbodkbaniebfaaaXFnExactListKeysx0
import Derived.Test.YtbodkbaniebfaaaXFnExactListKeysx1
import Derived.Test.YtbodkbaniebfaaaXFnExactListKeysx2
import Derived.Test.YtbodkbaniebfaaaXFnExactListKeysx4
import Derived.Test.YtbodkbaniebfaaaXFnExactListKeysx8
import Derived.Test.YtbodkbaniebfaaaXFnExactListKeysx9
namespace Go.Proofs.Ytbodkbaniebfaaa.XFnExactListKeys
open List (setIfInBounds_toArray set_cons_zero set_cons_succ)
open Go.RowKit Go.Proofs.YtbodkbaniebfaaaW.PrintWords Go.Proofs.YtbodkbaniebfaaaW.PrintLast Go.Proofs.YtbodkbaniebfaaaW.PrintMore
attribute [local go_sem] max2_int min2_int max_two min_two max_three min_three max_four min_four   -- for this text's walks alone
set_option linter.unusedVariables false
set_option linter.unusedSimpArgs false

/-! ### laws_FnExactListKeys: function 4 -/
mutual
def laws_FnExactListKeys.j0 : Nat → ByteArray → ByteArray → Int → List ByteArray → Int → List ByteArray → Int → Bool → List (S70) → Int → List (S71) → Int → Option (Bool)
 | 0,_,_,_,_,_,_,_,_,_,_,_,_ => none
 | k + 1,x1,x2,x3,x10,x11,x13,x14,x58,x238000,x238001,x252000,x252001 => if x58 = true then (none) else ((laws_toStore.f k x238000 x238001).bind fun bt257 => ((laws_eqStore.f k x252000 x252001 bt257.1 bt257.2).bind fun t261 => (if t261 = true then ((laws_markStore.f k x252000 x252001 1).bind fun bt262 => (if bt262.1 < 0 then (laws_FnExactListKeys.j1 k x1 x2 x3 x10 x11 x13 true x238000 x238001) else ((laws_eqStringS.f k x13 x10).bind fun t264 => (if t264 = true then (laws_FnExactListKeys.j1 k x1 x2 x3 x10 x11 x13 (x14 != x11) x238000 x238001) else (laws_FnExactListKeys.j1 k x1 x2 x3 x10 x11 x13 true x238000 x238001))))) else (none))))
def laws_FnExactListKeys.j1 : Nat → ByteArray → ByteArray → Int → List ByteArray → Int → List ByteArray → Bool → List (S70) → Int → Option (Bool)
 | 0,_,_,_,_,_,_,_,_,_ => none
 | k + 1,x1,x2,x3,x10,x11,x13,x79,x238000,x238001 => if x79 = true then (none) else ((laws_markStringS.f k x13 1).bind fun bt265 => ((laws_heldStringS.f k bt265.2 1).bind fun t267 => (if t267 < 0 then (none) else (if t267 = bt265.1 then ((laws_toStore.f k x238000 x238001).bind fun bt268 => ((impl_ListKeys.f k bt268.1 bt268.2 x1 x2 x3).bind fun bt272 => ((laws_eqStringS.f k bt272.1 x10).bind fun t276 => (if t276 = true then (laws_FnExactListKeys.j2 k bt265.2 bt265.1 (bt272.2 != x11)) else (laws_FnExactListKeys.j2 k bt265.2 bt265.1 true))))) else (none)))))
def laws_FnExactListKeys.j2 : Nat → List ByteArray → Int → Bool → Option (Bool)
 | 0,_,_,_ => none
 | k + 1,x13,x16,x108 => if x108 = true then (none) else ((laws_heldStringS.f k x13 1).bind fun t277 => (if t277 < 0 then (none) else (if t277 = x16 then (some true) else (none))))
end
def laws_FnExactListKeys.f (k : Nat) (l0_0 : List (S70)) (a0_1 : Int) (a1 : ByteArray) (a2 : ByteArray) (a3 : Int) : Option (Bool) := if (a1.size : Int) > 1048576 then (some true) else (if (a2.size : Int) > 1048576 then (some true) else ((laws_szStore.f k l0_0 a0_1 1048576).bind fun t238 => (if t238 < 0 then (some true) else ((laws_toStore.f k l0_0 a0_1).bind fun bt239 => ((spec_ListKeys.f k bt239.1 bt239.2 a1 a2 a3).bind fun bt243 => ((laws_toStore.f k l0_0 a0_1).bind fun bt247 => ((impl_ListKeys.f k bt247.1 bt247.2 a1 a2 a3).bind fun bt252 => ((laws_eqStringS.f k bt252.1 bt243.1).bind fun t256 => (if t256 = true then (laws_FnExactListKeys.j0 k a1 a2 a3 bt243.1 bt243.2 bt252.1 bt252.2 (bt252.2 != bt243.2) l0_0 a0_1 bt247.1 bt247.2) else (laws_FnExactListKeys.j0 k a1 a2 a3 bt243.1 bt243.2 bt252.1 bt252.2 true l0_0 a0_1 bt247.1 bt247.2))))))))))
theorem laws_FnExactListKeys.mono_l : ∀ k,(∀ y0 y1 y2 y3 y4 y5 y6 y7 y8 y9 y10 y11,LeO (laws_FnExactListKeys.j0 k y0 y1 y2 y3 y4 y5 y6 y7 y8 y9 y10 y11) (laws_FnExactListKeys.j0 (k + 1) y0 y1 y2 y3 y4 y5 y6 y7 y8 y9 y10 y11)) ∧ (∀ y0 y1 y2 y3 y4 y5 y6 y7 y8,LeO (laws_FnExactListKeys.j1 k y0 y1 y2 y3 y4 y5 y6 y7 y8) (laws_FnExactListKeys.j1 (k + 1) y0 y1 y2 y3 y4 y5 y6 y7 y8)) ∧ (∀ y0 y1 y2,LeO (laws_FnExactListKeys.j2 k y0 y1 y2) (laws_FnExactListKeys.j2 (k + 1) y0 y1 y2))
 | 0 => ⟨fun _ _ _ _ _ _ _ _ _ _ _ _ r h => by simp [laws_FnExactListKeys.j0] at h,fun _ _ _ _ _ _ _ _ _ r h => by simp [laws_FnExactListKeys.j1] at h,fun _ _ _ r h => by simp [laws_FnExactListKeys.j2] at h⟩
 | k + 1 => by
  obtain ⟨ih0,ih1,ih2⟩ := laws_FnExactListKeys.mono_l k
  refine ⟨?_,?_,?_⟩
  ·intro y0 y1 y2 y3 y4 y5 y6 y7 y8 y9 y10 y11
   unfold laws_FnExactListKeys.j0
   repeat' first
   | (with_reducible exact ih0 _ _ _ _ _ _ _ _ _ _ _ _)
   | (with_reducible exact ih1 _ _ _ _ _ _ _ _ _)
   | (with_reducible exact ih2 _ _ _)
   | (with_reducible exact impl_ListKeys.mono _ _ _ _ _ _)
   | (with_reducible exact laws_eqStore.mono _ _ _ _ _)
   | (with_reducible exact laws_eqStringS.mono _ _ _)
   | (with_reducible exact laws_heldStringS.mono _ _ _)
   | (with_reducible exact laws_markStore.mono _ _ _ _)
   | (with_reducible exact laws_markStringS.mono _ _ _)
   | (with_reducible exact laws_szStore.mono _ _ _ _)
   | (with_reducible exact laws_toStore.mono _ _ _)
   | (with_reducible exact spec_ListKeys.mono _ _ _ _ _ _)
   | (with_reducible exact LeO.refl _)
   | (with_reducible exact LeO.none _)
   | (with_reducible refine LeO.ite ?_ ?_)
   | (with_reducible refine LeO.bind ?_ (fun _ => ?_))
   | exact ih0 _ _ _ _ _ _ _ _ _ _ _ _
   | exact ih1 _ _ _ _ _ _ _ _ _
   | exact ih2 _ _ _
   | exact impl_ListKeys.mono _ _ _ _ _ _
   | exact laws_eqStore.mono _ _ _ _ _
   | exact laws_eqStringS.mono _ _ _
   | exact laws_heldStringS.mono _ _ _
   | exact laws_markStore.mono _ _ _ _
   | exact laws_markStringS.mono _ _ _
   | exact laws_szStore.mono _ _ _ _
   | exact laws_toStore.mono _ _ _
   | exact spec_ListKeys.mono _ _ _ _ _ _
   | exact LeO.none _
   | refine LeO.ite ?_ ?_
   | refine LeO.bind ?_ (fun _ => ?_)
  ·intro y0 y1 y2 y3 y4 y5 y6 y7 y8
   unfold laws_FnExactListKeys.j1
   repeat' first
   | (with_reducible exact ih0 _ _ _ _ _ _ _ _ _ _ _ _)
   | (with_reducible exact ih1 _ _ _ _ _ _ _ _ _)
   | (with_reducible exact ih2 _ _ _)
   | (with_reducible exact impl_ListKeys.mono _ _ _ _ _ _)
   | (with_reducible exact laws_eqStore.mono _ _ _ _ _)
   | (with_reducible exact laws_eqStringS.mono _ _ _)
   | (with_reducible exact laws_heldStringS.mono _ _ _)
   | (with_reducible exact laws_markStore.mono _ _ _ _)
   | (with_reducible exact laws_markStringS.mono _ _ _)
   | (with_reducible exact laws_szStore.mono _ _ _ _)
   | (with_reducible exact laws_toStore.mono _ _ _)
   | (with_reducible exact spec_ListKeys.mono _ _ _ _ _ _)
   | (with_reducible exact LeO.refl _)
   | (with_reducible exact LeO.none _)
   | (with_reducible refine LeO.ite ?_ ?_)
   | (with_reducible refine LeO.bind ?_ (fun _ => ?_))
   | exact ih0 _ _ _ _ _ _ _ _ _ _ _ _
   | exact ih1 _ _ _ _ _ _ _ _ _
   | exact ih2 _ _ _
   | exact impl_ListKeys.mono _ _ _ _ _ _
   | exact laws_eqStore.mono _ _ _ _ _
   | exact laws_eqStringS.mono _ _ _
   | exact laws_heldStringS.mono _ _ _
   | exact laws_markStore.mono _ _ _ _
   | exact laws_markStringS.mono _ _ _
   | exact laws_szStore.mono _ _ _ _
   | exact laws_toStore.mono _ _ _
   | exact spec_ListKeys.mono _ _ _ _ _ _
   | exact LeO.none _
   | refine LeO.ite ?_ ?_
   | refine LeO.bind ?_ (fun _ => ?_)
  ·intro y0 y1 y2
   unfold laws_FnExactListKeys.j2
   repeat' first
   | (with_reducible exact ih0 _ _ _ _ _ _ _ _ _ _ _ _)
   | (with_reducible exact ih1 _ _ _ _ _ _ _ _ _)
   | (with_reducible exact ih2 _ _ _)
   | (with_reducible exact impl_ListKeys.mono _ _ _ _ _ _)
   | (with_reducible exact laws_eqStore.mono _ _ _ _ _)
   | (with_reducible exact laws_eqStringS.mono _ _ _)
   | (with_reducible exact laws_heldStringS.mono _ _ _)
   | (with_reducible exact laws_markStore.mono _ _ _ _)
   | (with_reducible exact laws_markStringS.mono _ _ _)
   | (with_reducible exact laws_szStore.mono _ _ _ _)
   | (with_reducible exact laws_toStore.mono _ _ _)
   | (with_reducible exact spec_ListKeys.mono _ _ _ _ _ _)
   | (with_reducible exact LeO.refl _)
   | (with_reducible exact LeO.none _)
   | (with_reducible refine LeO.ite ?_ ?_)
   | (with_reducible refine LeO.bind ?_ (fun _ => ?_))
   | exact ih0 _ _ _ _ _ _ _ _ _ _ _ _
   | exact ih1 _ _ _ _ _ _ _ _ _
   | exact ih2 _ _ _
   | exact impl_ListKeys.mono _ _ _ _ _ _
   | exact laws_eqStore.mono _ _ _ _ _
   | exact laws_eqStringS.mono _ _ _
   | exact laws_heldStringS.mono _ _ _
   | exact laws_markStore.mono _ _ _ _
   | exact laws_markStringS.mono _ _ _
   | exact laws_szStore.mono _ _ _ _
   | exact laws_toStore.mono _ _ _
   | exact spec_ListKeys.mono _ _ _ _ _ _
   | exact LeO.none _
   | refine LeO.ite ?_ ?_
   | refine LeO.bind ?_ (fun _ => ?_)
theorem laws_FnExactListKeys.mono : ∀ a0 a1 a2 a3 a4 k,LeO (laws_FnExactListKeys.f k a0 a1 a2 a3 a4) (laws_FnExactListKeys.f (k + 1) a0 a1 a2 a3 a4) := by
 intro a0 a1 a2 a3 a4 k
 obtain ⟨ih0,ih1,ih2⟩ := laws_FnExactListKeys.mono_l k
 unfold laws_FnExactListKeys.f
 repeat' first
   | (with_reducible exact ih0 _ _ _ _ _ _ _ _ _ _ _ _)
   | (with_reducible exact ih1 _ _ _ _ _ _ _ _ _)
   | (with_reducible exact ih2 _ _ _)
   | (with_reducible exact impl_ListKeys.mono _ _ _ _ _ _)
   | (with_reducible exact laws_eqStore.mono _ _ _ _ _)
   | (with_reducible exact laws_eqStringS.mono _ _ _)
   | (with_reducible exact laws_heldStringS.mono _ _ _)
   | (with_reducible exact laws_markStore.mono _ _ _ _)
   | (with_reducible exact laws_markStringS.mono _ _ _)
   | (with_reducible exact laws_szStore.mono _ _ _ _)
   | (with_reducible exact laws_toStore.mono _ _ _)
   | (with_reducible exact spec_ListKeys.mono _ _ _ _ _ _)
   | (with_reducible exact LeO.refl _)
   | (with_reducible exact LeO.none _)
   | (with_reducible refine LeO.ite ?_ ?_)
   | (with_reducible refine LeO.bind ?_ (fun _ => ?_))
   | exact ih0 _ _ _ _ _ _ _ _ _ _ _ _
   | exact ih1 _ _ _ _ _ _ _ _ _
   | exact ih2 _ _ _
   | exact impl_ListKeys.mono _ _ _ _ _ _
   | exact laws_eqStore.mono _ _ _ _ _
   | exact laws_eqStringS.mono _ _ _
   | exact laws_heldStringS.mono _ _ _
   | exact laws_markStore.mono _ _ _ _
   | exact laws_markStringS.mono _ _ _
   | exact laws_szStore.mono _ _ _ _
   | exact laws_toStore.mono _ _ _
   | exact spec_ListKeys.mono _ _ _ _ _ _
   | exact LeO.none _
   | refine LeO.ite ?_ ?_
   | refine LeO.bind ?_ (fun _ => ?_)
set_option maxHeartbeats 8000000 in
set_option maxRecDepth 100000 in
theorem laws_FnExactListKeys.calls (k : Nat) (A0_0 : Option Addr) (c0_0 : Nat) (l0_0 : List (S70)) (a0_1 : Int) (a1 : ByteArray) (a2 : ByteArray) (a3 : Int) (r : Bool) (w : World) (hr0_0 : Kd.C k70 w A0_0 l0_0.length l0_0) (hc0_0 : l0_0.length ≤ c0_0) (h : laws_FnExactListKeys.f k l0_0 a0_1 a1 a2 a3 = some r) :
  Calls Try.prog 4 #[.agg #[.slice A0_0 l0_0.length c0_0,.int .i64 a0_1],.string a1,.string a2,.int .i64 a3] w fun e w' => e = .returned (.bool r) ∧ Below w.heap.size w w' := by
 have hu24 := Try.underlying24
 have hu28 := Try.underlying28
 have HR0_0 := Aside0.mk hr0_0
 have HC0_0 := Aside0.mk hc0_0
 clear hr0_0 hc0_0
 have HB := Aside0.mk (Below.refl w.heap.size w)
 have H : (if (a1.size : Int) > 1048576 then (some true) else (if (a2.size : Int) > 1048576 then (some true) else ((laws_szStore.f k l0_0 a0_1 1048576).bind fun t238 => (if t238 < 0 then (some true) else ((laws_toStore.f k l0_0 a0_1).bind fun bt239 => ((spec_ListKeys.f k bt239.1 bt239.2 a1 a2 a3).bind fun bt243 => ((laws_toStore.f k l0_0 a0_1).bind fun bt247 => ((impl_ListKeys.f k bt247.1 bt247.2 a1 a2 a3).bind fun bt252 => ((laws_eqStringS.f k bt252.1 bt243.1).bind fun t256 => (if t256 = true then (laws_FnExactListKeys.j0 k a1 a2 a3 bt243.1 bt243.2 bt252.1 bt252.2 (bt252.2 != bt243.2) l0_0 a0_1 bt247.1 bt247.2) else (laws_FnExactListKeys.j0 k a1 a2 a3 bt243.1 bt243.2 bt252.1 bt252.2 true l0_0 a0_1 bt247.1 bt247.2))))))))))) = some r := h
 clear h
 by_cases c5 : (a1.size : Int) > 1048576
 ·rw [if_pos c5] at H
  have c5b0 : decide (1048576 < (a1.size : Int)) = true := decide_eq_true c5
  have c5b1 : decide (1048576 < a1.size) = true := decide_eq_true (by omega)
  clear c5
  obtain rfl := Option.some.inj H
  go_enter Try.func4,Try.ntmps4
  go_wp2_with (first | ((with_reducible refine gate_dst (N:=4) rfl ?_); refine box_event ?hg (N:=4) ?hd (cs := #[.slice A0_0 l0_0.length c0_0,.int .i64 a0_1]) (t:=24) ?hr ?_; (case hd => rfl); (case hg => rfl); (case hr => first | (go_simp; done) | (go_simp; rfl)); intro gb237 hg w6 hbox hb; have n0_ := Aside0.mk (below_step bA hb); have n1_ := Aside0.mk (hbox); have n2_ := Aside0.mk ((by rw [hg]; exact (below_size bA) : w.heap.size ≤ gb237)); have n3_ := Aside0.mk ((by rw [hg]; exact (below_size bA) : w.heap.size ≤ gb237)); clear HB; have HB := n0_; have BK237 := n1_; have GW237 := n2_; have GE237 := n3_; clear n0_ n1_ n2_ n3_; clear hb hbox hg))
  go_ret
  exact ⟨by first | rfl | (simp [errW_none,errW_some] <;> rfl) | (simp [*,errW_none,errW_some] <;> rfl),bA⟩
 ·rw [if_neg c5] at H
  have c5b0 : decide (1048576 < (a1.size : Int)) = false := decide_eq_false c5
  have c5b1 : decide (1048576 < a1.size) = false := decide_eq_false (by omega)
  clear c5
  by_cases c7 : (a2.size : Int) > 1048576
  ·rw [if_pos c7] at H
   have c7b0 : decide (1048576 < (a2.size : Int)) = true := decide_eq_true c7
   have c7b1 : decide (1048576 < a2.size) = true := decide_eq_true (by omega)
   clear c7
   obtain rfl := Option.some.inj H
   go_enter Try.func4,Try.ntmps4
   go_wp2_with (first | ((with_reducible refine gate_dst (N:=4) rfl ?_); refine box_event ?hg (N:=4) ?hd (cs := #[.slice A0_0 l0_0.length c0_0,.int .i64 a0_1]) (t:=24) ?hr ?_; (case hd => rfl); (case hg => rfl); (case hr => first | (go_simp; done) | (go_simp; rfl)); intro gb237 hg w8 hbox hb; have n0_ := Aside0.mk (below_step bA hb); have n1_ := Aside0.mk (hbox); have n2_ := Aside0.mk ((by rw [hg]; exact (below_size bA) : w.heap.size ≤ gb237)); have n3_ := Aside0.mk ((by rw [hg]; exact (below_size bA) : w.heap.size ≤ gb237)); clear HB; have HB := n0_; have BK237 := n1_; have GW237 := n2_; have GE237 := n3_; clear n0_ n1_ n2_ n3_; clear hb hbox hg))
   go_ret
   exact ⟨by first | rfl | (simp [errW_none,errW_some] <;> rfl) | (simp [*,errW_none,errW_some] <;> rfl),bA⟩
  ·rw [if_neg c7] at H
   have c7b0 : decide (1048576 < (a2.size : Int)) = false := decide_eq_false c7
   have c7b1 : decide (1048576 < a2.size) = false := decide_eq_false (by omega)
   clear c7
   replace H := Option.bind_eq_some_iff.mp H
   obtain ⟨t238,A90,H⟩ := H
   try dsimp only at H
   have A9 := Aside0.mk A90
   clear A90
   by_cases c10 : t238 < 0
   ·rw [if_pos c10] at H
    have c10b0 : decide (t238 < 0) = true := decide_eq_true c10
    clear c10
    obtain rfl := Option.some.inj H
    go_enter Try.func4,Try.ntmps4
    go_wp2_with (first | ((with_reducible refine gate_dst (N:=4) rfl ?_); refine box_event ?hg (N:=4) ?hd (cs := #[.slice A0_0 l0_0.length c0_0,.int .i64 a0_1]) (t:=24) ?hr ?_; (case hd => rfl); (case hg => rfl); (case hr => first | (go_simp; done) | (go_simp; rfl)); intro gb237 hg w11 hbox hb; have n0_ := Aside0.mk (below_step bA hb); have n1_ := Aside0.mk (hbox); have n2_ := Aside0.mk ((by rw [hg]; exact (below_size bA) : w.heap.size ≤ gb237)); have n3_ := Aside0.mk ((by rw [hg]; exact (below_size bA) : w.heap.size ≤ gb237)); clear HB; have HB := n0_; have BK237 := n1_; have GW237 := n2_; have GE237 := n3_; clear n0_ n1_ n2_ n3_; clear hb hbox hg; have hcz12_0 : w11.cell? ⟨gb237,0,none⟩ = some (.slice A0_0 l0_0.length c0_0) := (blk_cell BK237.out 0).trans rfl; have hcz12_1 : w11.cell? ⟨gb237,1,none⟩ = some (.int .i64 a0_1) := (blk_cell BK237.out 1).trans rfl; have hfz12_0 := blk_frozen BK237.out 0; have hfz12_1 := blk_frozen BK237.out 1) | ((with_reducible refine gate_callee (f:=7) rfl ?_); refine goesL_ (some 28) rfl rfl Try.func7 (by kernel_rfl) rfl #[.agg #[.slice A0_0 l0_0.length c0_0,.int .i64 a0_1],.int .i64 1048576] rfl mA ?_; (with_reducible refine (laws_szStore.calls k _ _ l0_0 a0_1 1048576 t238 _ ?side1 ?side2 A9.out).mono ?_); (case side1 => repeat (first | exact (Kd.C_below HR0_0.out HB.out) | (with_reducible refine Kd.C_alloc ?_ _) | (with_reducible refine Kd.C_drewN ?_ _) | (with_reducible refine Kd.C_drew ?_))); (case side2 => exact HC0_0.out); rintro e w13 ⟨rfl,hb⟩; refine ⟨_,rfl,?_⟩; have n0_ := Aside0.mk (blk_below (g:=gb237) (o:=.cells #[.slice A0_0 l0_0.length c0_0,.int .i64 a0_1] 24 (0,0)) (kA BK237.out) hb); have n1_ := Aside0.mk (below_step bA hb); clear BK237; clear HB; have BK237 := n0_; have HB := n1_; clear n0_ n1_; (try clear hb); (try clear hb2); (try clear hk); (try clear hi)))
    go_ret
    exact ⟨by first | rfl | (simp [errW_none,errW_some] <;> rfl) | (simp [*,errW_none,errW_some] <;> rfl),bA⟩
   ·rw [if_neg c10] at H
    have c10b0 : decide (t238 < 0) = false := decide_eq_false c10
    clear c10
    replace H := Option.bind_eq_some_iff.mp H
    obtain ⟨⟨t239,t242⟩,A140,H⟩ := H
    try dsimp only at H
    have A14 := Aside0.mk A140
    clear A140
    replace H := Option.bind_eq_some_iff.mp H
    obtain ⟨⟨t243,t246⟩,A150,H⟩ := H
    try dsimp only at H
    have A15 := Aside0.mk A150
    clear A150
    replace H := Option.bind_eq_some_iff.mp H
    obtain ⟨⟨t247,t250⟩,A160,H⟩ := H
    try dsimp only at H
    have A16 := Aside0.mk A160
    clear A160
    replace H := Option.bind_eq_some_iff.mp H
    obtain ⟨⟨t252,t255⟩,A170,H⟩ := H
    try dsimp only at H
    have A17 := Aside0.mk A170
    clear A170
    have HC18 := Aside0.mk H
    clear H
    go_enter Try.func4,Try.ntmps4
    go_upto_region 12 with (first | ((with_reducible refine gate_dst (N:=4) rfl ?_); refine box_event ?hg (N:=4) ?hd (cs := #[.slice A0_0 l0_0.length c0_0,.int .i64 a0_1]) (t:=24) ?hr ?_; (case hd => rfl); (case hg => rfl); (case hr => first | (go_simp; done) | (go_simp; rfl)); intro gb237 hg w19 hbox hb; have n0_ := Aside0.mk (below_step bA hb); have n1_ := Aside0.mk (hbox); have n2_ := Aside0.mk ((by rw [hg]; exact (below_size bA) : w.heap.size ≤ gb237)); have n3_ := Aside0.mk ((by rw [hg]; exact (below_size bA) : w.heap.size ≤ gb237)); clear HB; have HB := n0_; have BK237 := n1_; have GW237 := n2_; have GE237 := n3_; clear n0_ n1_ n2_ n3_; clear hb hbox hg; have hcz20_0 : w19.cell? ⟨gb237,0,none⟩ = some (.slice A0_0 l0_0.length c0_0) := (blk_cell BK237.out 0).trans rfl; have hcz20_1 : w19.cell? ⟨gb237,1,none⟩ = some (.int .i64 a0_1) := (blk_cell BK237.out 1).trans rfl; have hfz20_0 := blk_frozen BK237.out 0; have hfz20_1 := blk_frozen BK237.out 1) | ((with_reducible refine gate_callee (f:=7) rfl ?_); refine goesL_ (some 28) rfl rfl Try.func7 (by kernel_rfl) rfl #[.agg #[.slice A0_0 l0_0.length c0_0,.int .i64 a0_1],.int .i64 1048576] rfl mA ?_; (with_reducible refine (laws_szStore.calls k _ _ l0_0 a0_1 1048576 t238 _ ?side1 ?side2 A9.out).mono ?_); (case side1 => repeat (first | exact (Kd.C_below HR0_0.out HB.out) | (with_reducible refine Kd.C_alloc ?_ _) | (with_reducible refine Kd.C_drewN ?_ _) | (with_reducible refine Kd.C_drew ?_))); (case side2 => exact HC0_0.out); rintro e w21 ⟨rfl,hb⟩; refine ⟨_,rfl,?_⟩; have n0_ := Aside0.mk (blk_below (g:=gb237) (o:=.cells #[.slice A0_0 l0_0.length c0_0,.int .i64 a0_1] 24 (0,0)) (kA BK237.out) hb); have n1_ := Aside0.mk (below_step bA hb); clear BK237; clear HB; have BK237 := n0_; have HB := n1_; clear n0_ n1_; (try clear hb); (try clear hb2); (try clear hk); (try clear hi); have hcz22_0 : w21.cell? ⟨gb237,0,none⟩ = some (.slice A0_0 l0_0.length c0_0) := (blk_cell BK237.out 0).trans rfl; have hcz22_1 : w21.cell? ⟨gb237,1,none⟩ = some (.int .i64 a0_1) := (blk_cell BK237.out 1).trans rfl; have hfz22_0 := blk_frozen BK237.out 0; have hfz22_1 := blk_frozen BK237.out 1) | ((with_reducible refine gate_callee (f:=9) rfl ?_); refine goesL_ (some 33) rfl rfl Try.func9 (by kernel_rfl) rfl #[.agg #[.slice A0_0 l0_0.length c0_0,.int .i64 a0_1]] rfl mA ?_; (with_reducible refine (laws_toStore.calls k _ _ l0_0 a0_1 t239 t242 _ ?side1 ?side2 A14.out).mono ?_); (case side1 => repeat (first | exact (Kd.C_below HR0_0.out HB.out) | (with_reducible refine Kd.C_alloc ?_ _) | (with_reducible refine Kd.C_drewN ?_ _) | (with_reducible refine Kd.C_drew ?_))); (case side2 => exact HC0_0.out); rintro e w23 ⟨v240,rfl,ho0,hb⟩; refine ⟨_,rfl,?_⟩; have n0_ := Aside0.mk (Kd.R_lower ho0 (below_size bA)); have n1_ := Aside0.mk (blk_below (g:=gb237) (o:=.cells #[.slice A0_0 l0_0.length c0_0,.int .i64 a0_1] 24 (0,0)) (kA BK237.out) hb); have n2_ := Aside0.mk (below_step bA hb); clear BK237; clear HB; have HO241 := n0_; have BK237 := n1_; have HB := n2_; clear n0_ n1_ n2_; (try clear hb); (try clear hb2); (try clear hk); (try clear hi); (try clear ho0); obtain ⟨Ao24,co24,eo24⟩ := Kd.R_slice HO241.out; subst eo24) | ((with_reducible refine gate_callee (f:=14) rfl ?_); refine goesL_ (some 37) rfl rfl Try.func14 (by kernel_rfl) rfl #[.agg #[.slice Ao24 t239.length co24,.int .i64 t242],.string a1,.string a2,.int .i64 a3] rfl mA ?_; (with_reducible refine (spec_ListKeys.calls k _ _ t239 t242 a1 a2 a3 t243 t246 _ ?side1 ?side2 A15.out).mono ?_); (case side1 => repeat (first | exact (Kd.R_reads' HO241.out).2.2 | (with_reducible refine Kd.C_alloc ?_ _) | (with_reducible refine Kd.C_drewN ?_ _) | (with_reducible refine Kd.C_drew ?_))); (case side2 => exact (Kd.R_reads' HO241.out).2.1); rintro e w25 ⟨v244,rfl,ho0,hb⟩; refine ⟨_,rfl,?_⟩; have n0_ := Aside0.mk (Kd.R_below (rA HO241.out) hb); have n1_ := Aside0.mk (Kd.R_lower ho0 (below_size bA)); have n2_ := Aside0.mk (blk_below (g:=gb237) (o:=.cells #[.slice A0_0 l0_0.length c0_0,.int .i64 a0_1] 24 (0,0)) (kA BK237.out) hb); have n3_ := Aside0.mk (below_step bA hb); clear HO241; clear BK237; clear HB; have HO241 := n0_; have HO245 := n1_; have BK237 := n2_; have HB := n3_; clear n0_ n1_ n2_ n3_; (try clear hb); (try clear hb2); (try clear hk); (try clear hi); (try clear ho0); have hcz26_0 : w25.cell? ⟨gb237,0,none⟩ = some (.slice A0_0 l0_0.length c0_0) := (blk_cell BK237.out 0).trans rfl; have hcz26_1 : w25.cell? ⟨gb237,1,none⟩ = some (.int .i64 a0_1) := (blk_cell BK237.out 1).trans rfl; have hfz26_0 := blk_frozen BK237.out 0; have hfz26_1 := blk_frozen BK237.out 1) | ((with_reducible refine gate_callee (f:=9) rfl ?_); refine goesL_ (some 41) rfl rfl Try.func9 (by kernel_rfl) rfl #[.agg #[.slice A0_0 l0_0.length c0_0,.int .i64 a0_1]] rfl mA ?_; (with_reducible refine (laws_toStore.calls k _ _ l0_0 a0_1 t247 t250 _ ?side1 ?side2 A16.out).mono ?_); (case side1 => repeat (first | exact (Kd.C_below HR0_0.out HB.out) | (with_reducible refine Kd.C_alloc ?_ _) | (with_reducible refine Kd.C_drewN ?_ _) | (with_reducible refine Kd.C_drew ?_))); (case side2 => exact HC0_0.out); rintro e w27 ⟨v248,rfl,ho0,hb⟩; refine ⟨_,rfl,?_⟩; have n0_ := Aside0.mk (Kd.R_elder' (rA HO241.out) (Kd.R_base ho0) hb); have n1_ := Aside0.mk (Kd.R_below (rA HO245.out) hb); have n2_ := Aside0.mk (Kd.R_lower (Kd.R_new' ho0 (Kd.R_lt (rA HO241.out))) (below_size bA)); have n3_ := Aside0.mk (blk_below (g:=gb237) (o:=.cells #[.slice A0_0 l0_0.length c0_0,.int .i64 a0_1] 24 (0,0)) (kA BK237.out) hb); have n4_ := Aside0.mk (below_step bA hb); clear HO241; clear HO245; clear BK237; clear HB; have HO241 := n0_; have HO245 := n1_; have HO249 := n2_; have BK237 := n3_; have HB := n4_; clear n0_ n1_ n2_ n3_ n4_; (try clear hb); (try clear hb2); (try clear hk); (try clear hi); (try clear ho0)) | ((with_reducible refine gate_dst (N:=12) rfl ?_); refine box_event ?hg (N:=12) ?hd (cs := #[.slice none 0 0,.int .i64 0]) (t:=28) ?hr ?_; (case hd => rfl); (case hg => rfl); (case hr => first | (go_simp; done) | (go_simp; rfl)); intro gb251 hg w28 hbox hb; have n0_ := Aside0.mk (Kd.R_below (rA HO241.out) hb); have n1_ := Aside0.mk (Kd.R_below (rA HO245.out) hb); have n2_ := Aside0.mk (Kd.R_below (rA HO249.out) hb); have n3_ := Aside0.mk (blk_below (g:=gb237) (o:=.cells #[.slice A0_0 l0_0.length c0_0,.int .i64 a0_1] 24 (0,0)) (kA BK237.out) hb); have n4_ := Aside0.mk (below_step bA hb); have n5_ := Aside0.mk (hbox); have n6_ := Aside0.mk ((by rw [hg]; exact (below_size bA) : w.heap.size ≤ gb251)); have n7_ := Aside0.mk ((by rw [hg]; exact (below_size bA) : w.heap.size ≤ gb251)); have n8_ := Aside0.mk ((by rw [hg]; exact Nat.ne_of_lt (blk_lt (g:=gb237) (o:=.cells #[.slice A0_0 l0_0.length c0_0,.int .i64 a0_1] 24 (0,0)) (kA BK237.out)) : gb237 ≠ gb251)); have n9_ := Aside0.mk ((by rw [hg]; exact Nat.ne_of_gt (blk_lt (g:=gb237) (o:=.cells #[.slice A0_0 l0_0.length c0_0,.int .i64 a0_1] 24 (0,0)) (kA BK237.out)) : gb251 ≠ gb237)); clear HO241; clear HO245; clear HO249; clear BK237; clear HB; have HO241 := n0_; have HO245 := n1_; have HO249 := n2_; have BK237 := n3_; have HB := n4_; have BK251 := n5_; have GW251 := n6_; have GE251 := n7_; have NB237_251 := n8_; have NB251_237 := n9_; clear n0_ n1_ n2_ n3_ n4_ n5_ n6_ n7_ n8_ n9_; clear hb hbox hg; obtain ⟨Ao29,co29,eo29⟩ := Kd.R_slice HO249.out; subst eo29; have hnb30 := NB251_237.out; have hnc30 := NB237_251.out; have hcz31_0 : w28.cell? ⟨gb251,0,none⟩ = some (.slice none 0 0) := (blk_cell BK251.out 0).trans rfl; have hcz31_1 : w28.cell? ⟨gb251,1,none⟩ = some (.int .i64 0) := (blk_cell BK251.out 1).trans rfl; have hfz31_0 := blk_frozen BK251.out 0; have hfz31_1 := blk_frozen BK251.out 1) | ((with_reducible refine gate_callee (f:=15) rfl ?_); refine goesL_ (some 47) rfl rfl Try.func15 (by kernel_rfl) rfl #[.agg #[.slice Ao29 t247.length co29,.int .i64 t250],.string a1,.string a2,.int .i64 a3] rfl mA ?_; (with_reducible refine (impl_ListKeys.calls k _ _ t247 t250 a1 a2 a3 t252 t255 _ ?side1 ?side2 A17.out).mono ?_); (case side1 => refine (Kd.R_reads' (e:=71) (base := w.heap.size) (ok := fun k_ => (True ∧ some k_ ≠ (.slice Ao24 t239.length co24 : Value).ownBlock)) (n:=t247.length) (c:=co29) ?_).2.2; exact (by (with_reducible repeat (first | apply Kd.R_alloc | apply Kd.R_drewN | apply Kd.R_drew)); exact (Kd.R_mono (Kd.R_far (p:=⟨gb251,1,none⟩) (Kd.R_far (p:=⟨gb251,0,none⟩) (Kd.R_types HO249.out BK251.out (by decide)) (fun _ hk => hk.2) (.slice Ao29 t247.length co29)) (fun _ hk => hk.2) (.int .i64 t250)) (fun _ h_ => h_.1)))); (case side2 => exact (Kd.R_reads' HO249.out).2.1); rintro e w32 ⟨v253,rfl,ho0,hb⟩; refine ⟨_,rfl,?_⟩; have n0_ := Aside0.mk (Kd.R_below (by (with_reducible repeat (first | apply Kd.R_alloc | apply Kd.R_drewN | apply Kd.R_drew)); exact (Kd.R_mono (Kd.R_far (p:=⟨gb251,1,none⟩) (Kd.R_far (p:=⟨gb251,0,none⟩) (Kd.R_types HO241.out BK251.out (by decide)) (fun _ hk => hk.2) (.slice Ao29 t247.length co29)) (fun _ hk => hk.2) (.int .i64 t250)) (fun _ h_ => h_.1))) hb); have n1_ := Aside0.mk (Kd.R_elder' (by (with_reducible repeat (first | apply Kd.R_alloc | apply Kd.R_drewN | apply Kd.R_drew)); exact (Kd.R_mono (Kd.R_far (p:=⟨gb251,1,none⟩) (Kd.R_far (p:=⟨gb251,0,none⟩) (Kd.R_types HO245.out BK251.out (by decide)) (fun _ hk => hk.2) (.slice Ao29 t247.length co29)) (fun _ hk => hk.2) (.int .i64 t250)) (fun _ h_ => h_.1))) (Kd.R_base ho0) hb); have n2_ := Aside0.mk (Kd.R_below (by (with_reducible repeat (first | apply Kd.R_alloc | apply Kd.R_drewN | apply Kd.R_drew)); exact (Kd.R_mono (Kd.R_far (p:=⟨gb251,1,none⟩) (Kd.R_far (p:=⟨gb251,0,none⟩) (Kd.R_types HO249.out BK251.out (by decide)) (fun _ hk => hk.2) (.slice Ao29 t247.length co29)) (fun _ hk => hk.2) (.int .i64 t250)) (fun _ h_ => h_.1))) hb); have n3_ := Aside0.mk (Kd.R_lower (Kd.R_new' ho0 (Kd.R_lt (by (with_reducible repeat (first | apply Kd.R_alloc | apply Kd.R_drewN | apply Kd.R_drew)); exact (Kd.R_mono (Kd.R_far (p:=⟨gb251,1,none⟩) (Kd.R_far (p:=⟨gb251,0,none⟩) (Kd.R_types HO245.out BK251.out (by decide)) (fun _ hk => hk.2) (.slice Ao29 t247.length co29)) (fun _ hk => hk.2) (.int .i64 t250)) (fun _ h_ => h_.1))))) (below_size bA)); have n4_ := Aside0.mk (blk_below (g:=gb237) (o:=.cells #[.slice A0_0 l0_0.length c0_0,.int .i64 a0_1] 24 (0,0)) (kF BK237.out) hb); have n5_ := Aside0.mk (blk_below (g:=gb251) (o:=.cells #[.slice Ao29 t247.length co29,.int .i64 t250] 28 (0,0)) (by (with_reducible repeat (first | refine blk_drewN ?_ _ | refine blk_drew ?_ | refine blk_alloc ?_ _)); refine blk_put (cs := #[.slice Ao29 t247.length co29,.int .i64 0]) ?_ 1 _ rfl; (with_reducible repeat (first | refine blk_drewN ?_ _ | refine blk_drew ?_ | refine blk_alloc ?_ _)); refine blk_put (cs := #[.slice none 0 0,.int .i64 0]) ?_ 0 _ rfl; (with_reducible repeat (first | refine blk_drewN ?_ _ | refine blk_drew ?_ | refine blk_alloc ?_ _)); exact BK251.out) hb); have n6_ := Aside0.mk (below_step bA hb); clear HO241; clear HO245; clear HO249; clear BK237; clear BK251; clear HB; have HO241 := n0_; have HO245 := n1_; have HO249 := n2_; have HO254 := n3_; have BK237 := n4_; have BK251 := n5_; have HB := n6_; clear n0_ n1_ n2_ n3_ n4_ n5_ n6_; (try clear hb); (try clear hb2); (try clear hk); (try clear hi); (try clear ho0)))
    (try simp only [Act.put,setIfInBounds_toArray,set_cons_zero,set_cons_succ])
    go_cut [58] (fun v58 wc => ∃ (kq : Nat) (x58_17 : Bool),v58 = .bool x58_17 ∧ Aside0 (laws_FnExactListKeys.j0 kq a1 a2 a3 t243 t246 t252 t255 x58_17 l0_0 a0_1 t247 t250 = some r) ∧ Aside0 (kq ≤ k) ∧ Aside0 (Kd.R Kd.string 9 wc w.heap.size (fun k_ => some k_ ≠ (v253 : Value).ownBlock) v244 t243) ∧ Aside0 (Kd.R Kd.string 9 wc w.heap.size (fun k_ => some k_ ≠ (v244 : Value).ownBlock) v253 t252) ∧ Aside0 (Kd.R k71 71 wc w.heap.size (fun _ => True) (.slice Ao29 t247.length co29) t247) ∧ Aside0 (wc.heap[gb237]? = some (.cells #[(.slice A0_0 l0_0.length c0_0),.int .i64 a0_1] 24 (0,0))) ∧ Aside0 (wc.heap[gb251]? = some (.cells #[(.slice Ao29 t247.length co29),.int .i64 t250] 28 (0,0))) ∧ Aside0 (Below w.heap.size w wc))
    case first =>
     have H := HC18.out
     clear HC18
     replace H := Option.bind_eq_some_iff.mp H
     obtain ⟨t256,A330,H⟩ := H
     try dsimp only at H
     have A33 := Aside0.mk A330
     clear A330
     by_cases c34 : t256 = true
     ·subst c34
      rw [if_pos rfl] at H
      have H' := Aside0.mk H
      clear H
      obtain ⟨Ao35,co35,eo35⟩ := Kd.R_slice HO254.out
      subst eo35
      obtain ⟨Ao36,co36,eo36⟩ := Kd.R_slice HO245.out
      subst eo36
      go_wp2_with (first | ((with_reducible refine gate_callee (f:=16) rfl ?_); refine goesL_ (some 52) rfl rfl Try.func16 (by kernel_rfl) rfl #[.slice Ao35 t252.length co35,.slice Ao36 t243.length co36] rfl mA ?_; (with_reducible refine (laws_eqStringS.calls k _ _ t252 _ _ t243 true _ ?side1 ?side2 ?side3 ?side4 A33.out).mono ?_); (case side1 => repeat (first | exact (Kd.R_reads' HO254.out).2.2 | (with_reducible refine Kd.C_alloc ?_ _) | (with_reducible refine Kd.C_drewN ?_ _) | (with_reducible refine Kd.C_drew ?_))); (case side2 => exact (Kd.R_reads' HO254.out).2.1); (case side3 => repeat (first | exact (Kd.R_reads' HO245.out).2.2 | (with_reducible refine Kd.C_alloc ?_ _) | (with_reducible refine Kd.C_drewN ?_ _) | (with_reducible refine Kd.C_drew ?_))); (case side4 => exact (Kd.R_reads' HO245.out).2.1); rintro e w' ⟨rfl,⟨nd,rfl⟩⟩; refine ⟨_,rfl,?_⟩))
      go_meet
      case rel => exact ⟨_,((t255 != t246)),(by first | rfl | (simp; done) | (simp [*]; done)),H',⟨by first | omega | exact Nat.le_refl _⟩,⟨by (with_reducible repeat (first | apply Kd.R_alloc | apply Kd.R_drewN | apply Kd.R_drew)); exact Kd.R_mono HO245.out (fun _ hk => hk.2)⟩,⟨by (with_reducible repeat (first | apply Kd.R_alloc | apply Kd.R_drewN | apply Kd.R_drew)); exact Kd.R_mono HO254.out (fun _ hk => hk.2)⟩,⟨by (with_reducible repeat (first | apply Kd.R_alloc | apply Kd.R_drewN | apply Kd.R_drew)); exact Kd.R_mono HO249.out (fun _ hk => trivial)⟩,⟨kA BK237.out⟩,⟨kA BK251.out⟩,⟨bA⟩⟩
     ·replace c34 := Bool.eq_false_iff.mpr c34
      subst c34
      rw [if_neg (show ¬ (false = true) by decide)] at H
      have H' := Aside0.mk H
      clear H
      obtain ⟨Ao37,co37,eo37⟩ := Kd.R_slice HO254.out
      subst eo37
      obtain ⟨Ao38,co38,eo38⟩ := Kd.R_slice HO245.out
      subst eo38
      go_wp2_with (first | ((with_reducible refine gate_callee (f:=16) rfl ?_); refine goesL_ (some 52) rfl rfl Try.func16 (by kernel_rfl) rfl #[.slice Ao37 t252.length co37,.slice Ao38 t243.length co38] rfl mA ?_; (with_reducible refine (laws_eqStringS.calls k _ _ t252 _ _ t243 false _ ?side1 ?side2 ?side3 ?side4 A33.out).mono ?_); (case side1 => repeat (first | exact (Kd.R_reads' HO254.out).2.2 | (with_reducible refine Kd.C_alloc ?_ _) | (with_reducible refine Kd.C_drewN ?_ _) | (with_reducible refine Kd.C_drew ?_))); (case side2 => exact (Kd.R_reads' HO254.out).2.1); (case side3 => repeat (first | exact (Kd.R_reads' HO245.out).2.2 | (with_reducible refine Kd.C_alloc ?_ _) | (with_reducible refine Kd.C_drewN ?_ _) | (with_reducible refine Kd.C_drew ?_))); (case side4 => exact (Kd.R_reads' HO245.out).2.1); rintro e w' ⟨rfl,⟨nd,rfl⟩⟩; refine ⟨_,rfl,?_⟩))
      go_meet
      case rel => exact ⟨_,(true),(by first | rfl | (simp; done) | (simp [*]; done)),H',⟨by first | omega | exact Nat.le_refl _⟩,⟨by (with_reducible repeat (first | apply Kd.R_alloc | apply Kd.R_drewN | apply Kd.R_drew)); exact Kd.R_mono HO245.out (fun _ hk => hk.2)⟩,⟨by (with_reducible repeat (first | apply Kd.R_alloc | apply Kd.R_drewN | apply Kd.R_drew)); exact Kd.R_mono HO254.out (fun _ hk => hk.2)⟩,⟨by (with_reducible repeat (first | apply Kd.R_alloc | apply Kd.R_drewN | apply Kd.R_drew)); exact Kd.R_mono HO249.out (fun _ hk => trivial)⟩,⟨kA BK237.out⟩,⟨kA BK251.out⟩,⟨bA⟩⟩
    case rest =>
     clear HC18
     try clear c1
     try clear p2
     try clear c3
     try clear c4
     try clear c5
     try clear c5b0
     try clear c5b1
     try clear c7
     try clear c7b0
     try clear c7b1
     try clear c9
     try clear c10
     try clear c10b0
     try clear c14
     try clear c15
     try clear c16
     try clear c30
     try clear c34
     try clear hcz12_0
     try clear hcz12_1
     try clear hcz20_0
     try clear hcz20_1
     try clear hcz22_0
     try clear hcz22_1
     try clear hcz26_0
     try clear hcz26_1
     try clear hcz31_0
     try clear hcz31_1
     try clear hfz12_0
     try clear hfz12_1
     try clear hfz20_0
     try clear hfz20_1
     try clear hfz22_0
     try clear hfz22_1
     try clear hfz26_0
     try clear hfz26_1
     try clear hfz31_0
     try clear hfz31_1
     obtain ⟨kq,x58_17,rfl,HA,HJ17,HO_10,HO_13,HO_252000,BK237,BK251,HB⟩ := hcut
     cases kq with
     | zero => exact absurd HA.out (by simp [laws_FnExactListKeys.j0])
     | succ kj17 =>
      have H := HA.out
      clear HA
      simp only [laws_FnExactListKeys.j0] at H
      by_cases c39 : x58_17 = true
      ·subst c39
       rw [if_pos rfl] at H
       exact absurd H (by simp)
      ·replace c39 := Bool.eq_false_iff.mpr c39
       subst c39
       rw [if_neg (show ¬ (false = true) by decide)] at H
       replace H := Option.bind_eq_some_iff.mp H
       obtain ⟨⟨t257,t260⟩,A400,H⟩ := H
       try dsimp only at H
       have A40 := Aside0.mk A400
       clear A400
       replace H := Option.bind_eq_some_iff.mp H
       obtain ⟨t261,A410,H⟩ := H
       try dsimp only at H
       have A41 := Aside0.mk A410
       clear A410
       by_cases c42 : t261 = true
       ·subst c42
        rw [if_pos rfl] at H
        replace H := Option.bind_eq_some_iff.mp H
        obtain ⟨⟨t262,t263⟩,A430,H⟩ := H
        try dsimp only at H
        have A43 := Aside0.mk A430
        clear A430
        have HC44 := Aside0.mk H
        clear H
        try go_wp2
        have n0_ := Aside0.mk (Kd.R_drew HO_10.out)
        have n1_ := Aside0.mk (Kd.R_drew HO_13.out)
        have n2_ := Aside0.mk (Kd.R_drew HO_252000.out)
        have n3_ := Aside0.mk (blk_drew BK237.out)
        have n4_ := Aside0.mk (blk_drew BK251.out)
        have n5_ := Aside0.mk (below_drew1 HB.out)
        clear HO_10
        clear HO_13
        clear HO_252000
        clear BK237
        clear BK251
        clear HB
        have HO_10 := n0_
        have HO_13 := n1_
        have HO_252000 := n2_
        have BK237 := n3_
        have BK251 := n4_
        have HB := n5_
        clear n0_ n1_ n2_ n3_ n4_ n5_
        refine start_ (n:=5) (S:=fun w' => w'.cell? ⟨gb251,0,none⟩ = some (.slice Ao29 t247.length co29) ∧ w'.cell? ⟨gb251,1,none⟩ = some (.int .i64 t250) ∧ w'.cell? ⟨gb237,0,none⟩ = some (.slice A0_0 l0_0.length c0_0) ∧ w'.cell? ⟨gb237,1,none⟩ = some (.int .i64 a0_1)) (ds := []) (bm 5 0) (by kernel_rfl) rfl rfl ⟨(blk_cell BK251.out 0).trans rfl,(blk_cell BK251.out 1).trans rfl,(blk_cell BK237.out 0).trans rfl,(blk_cell BK237.out 1).trans rfl⟩ (fun hHeld => ?_)
        generalize wc.drew = w45 at HO_10 HO_13 HO_252000 BK237 BK251 HB hHeld ⊢
        refine take_ (i:=0) (N:=some 59) (v:=?_) (a':=?_) (bm 5 1) rfl rfl (by kernel_rfl) (fun _ _ _ h => h) (Or.inl ⟨by rfl,?_⟩) hHeld ?_ ?_
        rotate_left
        ·rintro w' ⟨s0,s1,s2,s3⟩
         go_simp
         with_reducible rfl
        rotate_left
        ·simp only [Act.put,setIfInBounds_toArray,set_cons_zero,set_cons_succ,i64_w,i32_w]
         rfl
        refine take_ (i:=1) (N:=some 60) (v:=?_) (a':=?_) (bm 5 3) rfl rfl (by kernel_rfl) (fun _ _ _ h => h) (Or.inl ⟨by rfl,?_⟩) hHeld ?_ ?_
        rotate_left
        ·rintro w' ⟨s0,s1,s2,s3⟩
         go_simp
         with_reducible rfl
        rotate_left
        ·simp only [Act.put,setIfInBounds_toArray,set_cons_zero,set_cons_succ,i64_w,i32_w]
         rfl
        refine one_ (i:=2) (N:=some 61) (bm 5 7) rfl rfl (by kernel_rfl) (by decide) (fun K hK => ?_)
        refine goes_ Try.func9 (by kernel_rfl) rfl #[.agg #[.slice A0_0 l0_0.length c0_0,.int .i64 a0_1]] (by rfl) rfl rfl mA ?_
        with_reducible refine (laws_toStore.calls kj17 _ _ l0_0 a0_1 t257 t260 _ ?side1 ?side2 A40.out).mono ?_
        (case side1 => repeat (first | exact (Kd.C_below HR0_0.out HB.out) | (with_reducible refine Kd.C_alloc ?_ _) | (with_reducible refine Kd.C_drewN ?_ _) | (with_reducible refine Kd.C_drew ?_)))
        (case side2 => exact HC0_0.out)
        rintro e w46 ⟨v258,rfl,ho0,hb⟩
        refine ⟨_,rfl,?_⟩
        have n0_ := Aside0.mk (Kd.R_below (rA HO_10.out) hb)
        have n1_ := Aside0.mk (Kd.R_below (rA HO_13.out) hb)
        have n2_ := Aside0.mk (Kd.R_elder' (rA HO_252000.out) (Kd.R_base ho0) hb)
        have n3_ := Aside0.mk (Kd.R_lower (Kd.R_new' ho0 (Kd.R_lt (rA HO_252000.out))) (below_size bA))
        have n4_ := Aside0.mk (blk_below (g:=gb237) (o:=.cells #[.slice A0_0 l0_0.length c0_0,.int .i64 a0_1] 24 (0,0)) (kA BK237.out) hb)
        have n5_ := Aside0.mk (blk_below (g:=gb251) (o:=.cells #[.slice Ao29 t247.length co29,.int .i64 t250] 28 (0,0)) (kA BK251.out) hb)
        have n6_ := Aside0.mk (below_step bA hb)
        clear HO_10
        clear HO_13
        clear HO_252000
        clear BK237
        clear BK251
        clear HB
        have HO_10 := n0_
        have HO_13 := n1_
        have HO_252000 := n2_
        have HO259 := n3_
        have BK237 := n4_
        have BK251 := n5_
        have HB := n6_
        clear n0_ n1_ n2_ n3_ n4_ n5_ n6_
        (try clear hb)
        (try clear hb2)
        (try clear hk)
        (try clear hi)
        (try clear ho0)
        obtain ⟨Ao47,co47,eo47⟩ := Kd.R_slice HO259.out
        (first | subst eo47 | (injection eo47 with f1_ f2_ f3_; have f4_ := f1_.symm; have f5_ := f3_.symm; clear f1_ f2_ f3_; subst f4_; subst f5_))
        refine hK.out _ _ ⟨(blk_cell BK251.out 0).trans rfl,(blk_cell BK251.out 1).trans rfl,(blk_cell BK237.out 0).trans rfl,(blk_cell BK237.out 1).trans rfl⟩ (fun hHeld => ?_)
        clear hK K
        refine norm_ (a':=?_) ?_ ?_
        rotate_left
        ·show Act.put _ (some 61) _ = _
         simp only [Act.put,setIfInBounds_toArray,set_cons_zero,set_cons_succ,i64_w,i32_w]
         rfl
        refine one_ (i:=3) (N:=some 62) (bm 5 15) rfl rfl (by kernel_rfl) (by decide) (fun K hK => ?_)
        refine goes_ Try.func11 (by kernel_rfl) rfl #[.agg #[.slice Ao29 t247.length co29,.int .i64 t250],.agg #[.slice Ao47 t257.length co47,.int .i64 t260]] (by rfl) rfl rfl mA ?_
        with_reducible refine (laws_eqStore.calls kj17 _ _ t247 t250 _ _ t257 t260 true _ ?side1 ?side2 ?side3 ?side4 A41.out).mono ?_
        (case side1 => repeat (first | exact (Kd.R_reads' HO_252000.out).2.2 | (with_reducible refine Kd.C_alloc ?_ _) | (with_reducible refine Kd.C_drewN ?_ _) | (with_reducible refine Kd.C_drew ?_)))
        (case side2 => exact (Kd.R_reads' HO_252000.out).2.1)
        (case side3 => repeat (first | exact (Kd.R_reads' HO259.out).2.2 | (with_reducible refine Kd.C_alloc ?_ _) | (with_reducible refine Kd.C_drewN ?_ _) | (with_reducible refine Kd.C_drew ?_)))
        (case side4 => exact (Kd.R_reads' HO259.out).2.1)
        rintro e w48 ⟨rfl,hb⟩
        refine ⟨_,rfl,?_⟩
        have n0_ := Aside0.mk (Kd.R_below (rA HO_10.out) hb)
        have n1_ := Aside0.mk (Kd.R_below (rA HO_13.out) hb)
        have n2_ := Aside0.mk (Kd.R_below (rA HO_252000.out) hb)
        have n3_ := Aside0.mk (Kd.R_below (rA HO259.out) hb)
        have n4_ := Aside0.mk (blk_below (g:=gb237) (o:=.cells #[.slice A0_0 l0_0.length c0_0,.int .i64 a0_1] 24 (0,0)) (kA BK237.out) hb)
        have n5_ := Aside0.mk (blk_below (g:=gb251) (o:=.cells #[.slice Ao29 t247.length co29,.int .i64 t250] 28 (0,0)) (kA BK251.out) hb)
        have n6_ := Aside0.mk (below_step bA hb)
        clear HO_10
        clear HO_13
        clear HO_252000
        clear HO259
        clear BK237
        clear BK251
        clear HB
        have HO_10 := n0_
        have HO_13 := n1_
        have HO_252000 := n2_
        have HO259 := n3_
        have BK237 := n4_
        have BK251 := n5_
        have HB := n6_
        clear n0_ n1_ n2_ n3_ n4_ n5_ n6_
        (try clear hb)
        (try clear hb2)
        (try clear hk)
        (try clear hi)
        refine hK.out _ _ ⟨(blk_cell BK251.out 0).trans rfl,(blk_cell BK251.out 1).trans rfl,(blk_cell BK237.out 0).trans rfl,(blk_cell BK237.out 1).trans rfl⟩ (fun hHeld => ?_)
        clear hK K
        refine norm_ (a':=?_) ?_ ?_
        rotate_left
        ·show Act.put _ (some 62) _ = _
         simp only [Act.put,setIfInBounds_toArray,set_cons_zero,set_cons_succ,i64_w,i32_w]
         rfl
        refine pure_ (i:=4) (N:=some 63) (v:=?_) (a':=?_) (bm 5 31) rfl rfl (by kernel_rfl) (fun _ _ _ h => h) (Or.inl ⟨by rfl,?_⟩) ?_ ?_
        rotate_left
        ·intro w'
         go_simp
         with_reducible rfl
        rotate_left
        ·simp only [Act.put,setIfInBounds_toArray,set_cons_zero,set_cons_succ,i64_w,i32_w]
         rfl
        refine done_ (by kernel_rfl) ?_
        have hnb49 := NB251_237.out
        have hnc49 := NB237_251.out
        have hcz50_0 : w48.cell? ⟨gb251,0,none⟩ = some (.slice Ao29 t247.length co29) := (blk_cell BK251.out 0).trans rfl
        have hcz50_1 : w48.cell? ⟨gb251,1,none⟩ = some (.int .i64 t250) := (blk_cell BK251.out 1).trans rfl
        have hfz50_0 := blk_frozen BK251.out 0
        have hfz50_1 := blk_frozen BK251.out 1
        go_upto_region 18 with (first | ((with_reducible refine gate_callee (f:=12) rfl ?_); refine goesL_ (some 66) rfl rfl Try.func12 (by kernel_rfl) rfl #[.agg #[.slice Ao29 t247.length co29,.int .i64 t250],.int .i64 1] rfl mA ?_; (with_reducible refine (laws_markStore.calls kj17 (fun k_ => some k_ = (.slice Ao29 t247.length co29 : Value).ownBlock) (.slice Ao29 t247.length co29) t247 t250 1 t262 t263 w _ ?side1 ?side2 A43.out).mono ?_); (case side1 => exact bA); (case side2 => exact Kd.R_tight rfl HO_252000.out); rintro e w51 ⟨rfl,hy0,hb,hkp⟩; refine ⟨_,rfl,?_⟩; have n0_ := Aside0.mk (Kd.R_mono (ok' := fun k_ => some k_ ≠ (v253 : Value).ownBlock) (Kd.R_keptB ((Kd.R_apart' HO_10.out (Kd.R_typed HO_252000.out) (by decide))) hkp (fun k_ hk_ hs_ => (hk_.2) hs_)) (fun k_ hk_ => hk_.1.1)); have n1_ := Aside0.mk (Kd.R_mono (ok' := fun k_ => some k_ ≠ (v244 : Value).ownBlock) (Kd.R_keptB ((Kd.R_apart' HO_13.out (Kd.R_typed HO_252000.out) (by decide))) hkp (fun k_ hk_ hs_ => (hk_.2) hs_)) (fun k_ hk_ => hk_.1.1)); have n2_ := Aside0.mk (Kd.R_reok rfl hy0 (fun k_ e_ => HO_252000.out.1 k_ e_)); have n3_ := Aside0.mk (blk_kept (kA BK237.out) hkp (fun hs_ => (fun e_ => (Kd.R_ne HO_252000.out BK237.out (by decide)) e_) hs_)); have n4_ := Aside0.mk (blk_kept (kA BK251.out) hkp (fun hs_ => (fun e_ => (Kd.R_ne HO_252000.out BK251.out (by decide)) e_) hs_)); have n5_ := Aside0.mk (Kd.R_mono (ok' := fun k_ => some k_ ≠ (.slice Ao29 t247.length co29 : Value).ownBlock) (Kd.R_keptB (HO259.out) hkp (fun k_ hk_ hs_ => (hk_.2) hs_)) (fun k_ hk_ => hk_.1.2)); have n6_ := Aside0.mk (hb); clear HO_10; clear HO_13; clear HO_252000; clear BK237; clear BK251; clear HO259; clear HB; have HO_10 := n0_; have HO_13 := n1_; have HO_252000 := n2_; have BK237 := n3_; have BK251 := n4_; have HO259 := n5_; have HB := n6_; clear n0_ n1_ n2_ n3_ n4_ n5_ n6_; (try clear hb); (try clear hkp); (try clear hy0)))
        (try simp only [Act.put,setIfInBounds_toArray,set_cons_zero,set_cons_succ])
        go_cut [79] (fun v79 wc => ∃ (kq : Nat) (x79_43 : Bool),v79 = .bool x79_43 ∧ Aside0 (laws_FnExactListKeys.j1 kq a1 a2 a3 t243 t246 t252 x79_43 l0_0 a0_1 = some r) ∧ Aside0 (kq ≤ kj17) ∧ Aside0 (Kd.R Kd.string 9 wc w.heap.size (fun k_ => some k_ ≠ (v253 : Value).ownBlock) v244 t243) ∧ Aside0 (Kd.R Kd.string 9 wc w.heap.size (fun k_ => some k_ ≠ (v244 : Value).ownBlock) v253 t252) ∧ Aside0 (Kd.R k71 71 wc w.heap.size (fun _ => True) (.slice Ao29 t247.length co29) t263) ∧ Aside0 (wc.heap[gb237]? = some (.cells #[(.slice A0_0 l0_0.length c0_0),.int .i64 a0_1] 24 (0,0))) ∧ Aside0 (wc.heap[gb251]? = some (.cells #[(.slice Ao29 t247.length co29),.int .i64 t250] 28 (0,0))) ∧ Aside0 (Below w.heap.size w wc))
        case first =>
         have H := HC44.out
         clear HC44
         by_cases c52 : t262 < 0
         ·rw [if_pos c52] at H
          have c52b0 : decide (t262 < 0) = true := decide_eq_true c52
          clear c52
          (first | rw [c52b0] | (simp only [i64_w,i32_w]; rw [c52b0]) | skip)
          have H' := Aside0.mk H
          clear H
          go_wp2
          go_meet
          case rel => exact ⟨_,(true),(by first | rfl | (simp; done) | (simp [*]; done)),H',⟨by have := HJ17.out; first | omega | exact Nat.le_refl _⟩,⟨rA HO_10.out⟩,⟨rA HO_13.out⟩,⟨by (with_reducible repeat (first | apply Kd.R_alloc | apply Kd.R_drewN | apply Kd.R_drew)); exact Kd.R_mono HO_252000.out (fun _ hk => trivial)⟩,⟨kA BK237.out⟩,⟨kA BK251.out⟩,⟨bA⟩⟩
         ·rw [if_neg c52] at H
          have c52b0 : decide (t262 < 0) = false := decide_eq_false c52
          clear c52
          (first | rw [c52b0] | (simp only [i64_w,i32_w]; rw [c52b0]) | skip)
          replace H := Option.bind_eq_some_iff.mp H
          obtain ⟨t264,A530,H⟩ := H
          try dsimp only at H
          have A53 := Aside0.mk A530
          clear A530
          by_cases c54 : t264 = true
          ·subst c54
           rw [if_pos rfl] at H
           have H' := Aside0.mk H
           clear H
           obtain ⟨Ao55,co55,eo55⟩ := Kd.R_slice HO_13.out
           subst eo55
           obtain ⟨Ao56,co56,eo56⟩ := Kd.R_slice HO_10.out
           subst eo56
           go_wp2_with (first | (go_at_call 16; (with_reducible refine (laws_eqStringS.calls kj17 _ _ t252 _ _ t243 true _ ?side1 ?side2 ?side3 ?side4 A53.out).mono ?_); (case side1 => repeat (first | exact (Kd.R_reads' HO_13.out).2.2 | (with_reducible refine Kd.C_alloc ?_ _) | (with_reducible refine Kd.C_drewN ?_ _) | (with_reducible refine Kd.C_drew ?_))); (case side2 => exact (Kd.R_reads' HO_13.out).2.1); (case side3 => repeat (first | exact (Kd.R_reads' HO_10.out).2.2 | (with_reducible refine Kd.C_alloc ?_ _) | (with_reducible refine Kd.C_drewN ?_ _) | (with_reducible refine Kd.C_drew ?_))); (case side4 => exact (Kd.R_reads' HO_10.out).2.1); rintro e w' ⟨rfl,⟨nd,rfl⟩⟩))
           go_meet
           case rel => exact ⟨_,((t255 != t246)),(by first | rfl | (simp; done) | (simp [*]; done)),H',⟨by have := HJ17.out; first | omega | exact Nat.le_refl _⟩,⟨rA HO_10.out⟩,⟨rA HO_13.out⟩,⟨by (with_reducible repeat (first | apply Kd.R_alloc | apply Kd.R_drewN | apply Kd.R_drew)); exact Kd.R_mono HO_252000.out (fun _ hk => trivial)⟩,⟨kA BK237.out⟩,⟨kA BK251.out⟩,⟨bA⟩⟩
          ·replace c54 := Bool.eq_false_iff.mpr c54
           subst c54
           rw [if_neg (show ¬ (false = true) by decide)] at H
           have H' := Aside0.mk H
           clear H
           obtain ⟨Ao57,co57,eo57⟩ := Kd.R_slice HO_13.out
           subst eo57
           obtain ⟨Ao58,co58,eo58⟩ := Kd.R_slice HO_10.out
           subst eo58
           go_wp2_with (first | (go_at_call 16; (with_reducible refine (laws_eqStringS.calls kj17 _ _ t252 _ _ t243 false _ ?side1 ?side2 ?side3 ?side4 A53.out).mono ?_); (case side1 => repeat (first | exact (Kd.R_reads' HO_13.out).2.2 | (with_reducible refine Kd.C_alloc ?_ _) | (with_reducible refine Kd.C_drewN ?_ _) | (with_reducible refine Kd.C_drew ?_))); (case side2 => exact (Kd.R_reads' HO_13.out).2.1); (case side3 => repeat (first | exact (Kd.R_reads' HO_10.out).2.2 | (with_reducible refine Kd.C_alloc ?_ _) | (with_reducible refine Kd.C_drewN ?_ _) | (with_reducible refine Kd.C_drew ?_))); (case side4 => exact (Kd.R_reads' HO_10.out).2.1); rintro e w' ⟨rfl,⟨nd,rfl⟩⟩))
           go_meet
           case rel => exact ⟨_,(true),(by first | rfl | (simp; done) | (simp [*]; done)),H',⟨by have := HJ17.out; first | omega | exact Nat.le_refl _⟩,⟨rA HO_10.out⟩,⟨rA HO_13.out⟩,⟨by (with_reducible repeat (first | apply Kd.R_alloc | apply Kd.R_drewN | apply Kd.R_drew)); exact Kd.R_mono HO_252000.out (fun _ hk => trivial)⟩,⟨kA BK237.out⟩,⟨kA BK251.out⟩,⟨bA⟩⟩
        case rest =>
         clear HC44
         try clear c1
         try clear p2
         try clear c3
         try clear c4
         try clear c5
         try clear c5b0
         try clear c5b1
         try clear c7
         try clear c7b0
         try clear c7b1
         try clear c9
         try clear c10
         try clear c10b0
         try clear c11
         try clear c12
         try clear c14
         try clear c15
         try clear c16
         try clear c30
         try clear c34
         try clear c39
         try clear c42
         try clear c49
         try clear c52
         try clear c52b0
         try clear c54
         try clear hcz12_0
         try clear hcz12_1
         try clear hcz20_0
         try clear hcz20_1
         try clear hcz22_0
         try clear hcz22_1
         try clear hcz26_0
         try clear hcz26_1
         try clear hcz31_0
         try clear hcz31_1
         try clear hcz50_0
         try clear hcz50_1
         try clear hfz12_0
         try clear hfz12_1
         try clear hfz20_0
         try clear hfz20_1
         try clear hfz22_0
         try clear hfz22_1
         try clear hfz26_0
         try clear hfz26_1
         try clear hfz31_0
         try clear hfz31_1
         try clear hfz50_0
         try clear hfz50_1
         try clear p2
         obtain ⟨kq,x79_43,rfl,HA,HJ43,HO_10,HO_13,HO_252000,BK237,BK251,HB⟩ := hcut
         have hl252000_43 := (Kd.R_reads' HO_252000.out).1
         rw [hl252000_43] at HO_252000
         (try simp only [hl252000_43])
         (try simp only [hl252000_43] at BK237)
         (try simp only [hl252000_43] at BK251)
         (try simp only [hl252000_43] at HO_10)
         (try simp only [hl252000_43] at HO_13)
         cases kq with
         | zero => exact absurd HA.out (by simp [laws_FnExactListKeys.j1])
         | succ kj43 =>
          have H := HA.out
          clear HA
          simp only [laws_FnExactListKeys.j1] at H
          by_cases c59 : x79_43 = true
          ·subst c59
           rw [if_pos rfl] at H
           exact absurd H (by simp)
          ·replace c59 := Bool.eq_false_iff.mpr c59
           subst c59
           rw [if_neg (show ¬ (false = true) by decide)] at H
           replace H := Option.bind_eq_some_iff.mp H
           obtain ⟨⟨t265,t266⟩,A600,H⟩ := H
           try dsimp only at H
           have A60 := Aside0.mk A600
           clear A600
           replace H := Option.bind_eq_some_iff.mp H
           obtain ⟨t267,A610,H⟩ := H
           try dsimp only at H
           have A61 := Aside0.mk A610
           clear A610
           by_cases c62 : t267 < 0
           ·rw [if_pos c62] at H
            exact absurd H (by simp)
           ·rw [if_neg c62] at H
            have c62b0 : decide (t267 < 0) = false := decide_eq_false c62
            clear c62
            by_cases c63 : t267 = t265
            ·rw [if_pos c63] at H
             have c63b0 : (t267 == t265) = true := beq_iff_eq.mpr c63
             have c63b1 : (t267 != t265) = false := bne_eq_false_iff_eq.mpr c63
             clear c63
             replace H := Option.bind_eq_some_iff.mp H
             obtain ⟨⟨t268,t271⟩,A640,H⟩ := H
             try dsimp only at H
             have A64 := Aside0.mk A640
             clear A640
             replace H := Option.bind_eq_some_iff.mp H
             obtain ⟨⟨t272,t275⟩,A650,H⟩ := H
             try dsimp only at H
             have A65 := Aside0.mk A650
             clear A650
             have HC66 := Aside0.mk H
             clear H
             obtain ⟨Ao67,co67,eo67⟩ := Kd.R_slice HO_13.out
             subst eo67
             go_upto_region 29 with (first | ((with_reducible refine gate_callee (f:=17) rfl ?_); refine goesL_ (some 82) rfl rfl Try.func17 (by kernel_rfl) rfl #[.slice Ao67 t252.length co67,.int .i64 1] rfl mA ?_; (with_reducible refine (laws_markStringS.calls kj43 (fun k_ => some k_ = (.slice Ao67 t252.length co67 : Value).ownBlock) (.slice Ao67 t252.length co67) t252 1 t265 t266 w _ ?side1 ?side2 A60.out).mono ?_); (case side1 => exact bA); (case side2 => exact Kd.R_tight rfl HO_13.out); rintro e w68 ⟨rfl,hy0,hb,hkp⟩; refine ⟨_,rfl,?_⟩; have n0_ := Aside0.mk (Kd.R_mono (ok' := fun k_ => some k_ ≠ (.slice Ao67 t252.length co67 : Value).ownBlock) (Kd.R_keptB (HO_10.out) hkp (fun k_ hk_ hs_ => (hk_) hs_)) (fun k_ hk_ => hk_.1)); have n1_ := Aside0.mk (Kd.R_reok rfl hy0 (fun k_ e_ => HO_13.out.1 k_ e_)); have n2_ := Aside0.mk (Kd.R_mono (ok' := fun k_ => True) (Kd.R_keptB ((Kd.R_apart' HO_252000.out (Kd.R_typed HO_13.out) (by decide))) hkp (fun k_ hk_ hs_ => (hk_.2) hs_)) (fun k_ hk_ => trivial)); have n3_ := Aside0.mk (blk_kept (kA BK237.out) hkp (fun hs_ => (fun e_ => (Kd.R_ne HO_13.out BK237.out (by decide)) e_) hs_)); have n4_ := Aside0.mk (blk_kept (kA BK251.out) hkp (fun hs_ => (fun e_ => (Kd.R_ne HO_13.out BK251.out (by decide)) e_) hs_)); have n5_ := Aside0.mk (hb); clear HO_10; clear HO_13; clear HO_252000; clear BK237; clear BK251; clear HB; have HO_10 := n0_; have HO_13 := n1_; have HO_252000 := n2_; have BK237 := n3_; have BK251 := n4_; have HB := n5_; clear n0_ n1_ n2_ n3_ n4_ n5_; (try clear hb); (try clear hkp); (try clear hy0)) | ((with_reducible refine gate_callee (f:=18) rfl ?_); refine goesL_ (some 85) rfl rfl Try.func18 (by kernel_rfl) rfl #[.slice Ao67 t266.length co67,.int .i64 1] rfl (by (try simp only [List.map_toArray,List.map_cons,List.map_nil]); first | done | (rw [show t266.length = t252.length from (Kd.R_reads' HO_13.out).1.symm] <;> rfl) | rfl | (simp only [List.length_drop,List.length_take]; rfl)) ?_; (with_reducible refine (laws_heldStringS.calls kj43 _ _ t266 1 t267 _ ?side1 ?side2 A61.out).mono ?_); (case side1 => repeat (first | exact (Kd.R_reads' HO_13.out).2.2 | (with_reducible refine Kd.C_alloc ?_ _) | (with_reducible refine Kd.C_drewN ?_ _) | (with_reducible refine Kd.C_drew ?_))); (case side2 => rw [show t266.length = t252.length from (Kd.R_reads' HO_13.out).1.symm]; exact (Kd.R_reads' HO_13.out).2.1); rintro e w69 ⟨rfl,hb⟩; refine ⟨_,rfl,?_⟩; have n0_ := Aside0.mk (Kd.R_below (rA HO_10.out) hb); have n1_ := Aside0.mk (Kd.R_below (rA HO_13.out) hb); have n2_ := Aside0.mk (Kd.R_below (rA HO_252000.out) hb); have n3_ := Aside0.mk (blk_below (g:=gb237) (o:=.cells #[.slice A0_0 l0_0.length c0_0,.int .i64 a0_1] 24 (0,0)) (kA BK237.out) hb); have n4_ := Aside0.mk (blk_below (g:=gb251) (o:=.cells #[.slice Ao29 t263.length co29,.int .i64 t250] 28 (0,0)) (kA BK251.out) hb); have n5_ := Aside0.mk (below_step bA hb); clear HO_10; clear HO_13; clear HO_252000; clear BK237; clear BK251; clear HB; have HO_10 := n0_; have HO_13 := n1_; have HO_252000 := n2_; have BK237 := n3_; have BK251 := n4_; have HB := n5_; clear n0_ n1_ n2_ n3_ n4_ n5_; (try clear hb); (try clear hb2); (try clear hk); (try clear hi); have hnb70 := NB237_251.out; have hnc70 := NB251_237.out; have hcz71_0 : w69.cell? ⟨gb237,0,none⟩ = some (.slice A0_0 l0_0.length c0_0) := (blk_cell BK237.out 0).trans rfl; have hcz71_1 : w69.cell? ⟨gb237,1,none⟩ = some (.int .i64 a0_1) := (blk_cell BK237.out 1).trans rfl; have hfz71_0 := blk_frozen BK237.out 0; have hfz71_1 := blk_frozen BK237.out 1) | ((with_reducible refine gate_callee (f:=9) rfl ?_); refine goesL_ (some 93) rfl rfl Try.func9 (by kernel_rfl) rfl #[.agg #[.slice A0_0 l0_0.length c0_0,.int .i64 a0_1]] rfl mA ?_; (with_reducible refine (laws_toStore.calls kj43 _ _ l0_0 a0_1 t268 t271 _ ?side1 ?side2 A64.out).mono ?_); (case side1 => repeat (first | exact (Kd.C_below HR0_0.out HB.out) | (with_reducible refine Kd.C_alloc ?_ _) | (with_reducible refine Kd.C_drewN ?_ _) | (with_reducible refine Kd.C_drew ?_))); (case side2 => exact HC0_0.out); rintro e w72 ⟨v269,rfl,ho0,hb⟩; refine ⟨_,rfl,?_⟩; have n0_ := Aside0.mk (Kd.R_below (rA HO_10.out) hb); have n1_ := Aside0.mk (Kd.R_below (rA HO_13.out) hb); have n2_ := Aside0.mk (Kd.R_elder' (rA HO_252000.out) (Kd.R_base ho0) hb); have n3_ := Aside0.mk (Kd.R_lower (Kd.R_new' ho0 (Kd.R_lt (rA HO_252000.out))) (below_size bA)); have n4_ := Aside0.mk (blk_below (g:=gb237) (o:=.cells #[.slice A0_0 l0_0.length c0_0,.int .i64 a0_1] 24 (0,0)) (kA BK237.out) hb); have n5_ := Aside0.mk (blk_below (g:=gb251) (o:=.cells #[.slice Ao29 t263.length co29,.int .i64 t250] 28 (0,0)) (kA BK251.out) hb); have n6_ := Aside0.mk (below_step bA hb); clear HO_10; clear HO_13; clear HO_252000; clear BK237; clear BK251; clear HB; have HO_10 := n0_; have HO_13 := n1_; have HO_252000 := n2_; have HO270 := n3_; have BK237 := n4_; have BK251 := n5_; have HB := n6_; clear n0_ n1_ n2_ n3_ n4_ n5_ n6_; (try clear hb); (try clear hb2); (try clear hk); (try clear hi); (try clear ho0); obtain ⟨Ao73,co73,eo73⟩ := Kd.R_slice HO270.out; subst eo73) | ((with_reducible refine gate_callee (f:=15) rfl ?_); refine goesL_ (some 97) rfl rfl Try.func15 (by kernel_rfl) rfl #[.agg #[.slice Ao73 t268.length co73,.int .i64 t271],.string a1,.string a2,.int .i64 a3] rfl mA ?_; (with_reducible refine (impl_ListKeys.calls kj43 _ _ t268 t271 a1 a2 a3 t272 t275 _ ?side1 ?side2 A65.out).mono ?_); (case side1 => repeat (first | exact (Kd.R_reads' HO270.out).2.2 | (with_reducible refine Kd.C_alloc ?_ _) | (with_reducible refine Kd.C_drewN ?_ _) | (with_reducible refine Kd.C_drew ?_))); (case side2 => exact (Kd.R_reads' HO270.out).2.1); rintro e w74 ⟨v273,rfl,ho0,hb⟩; refine ⟨_,rfl,?_⟩; have n0_ := Aside0.mk (Kd.R_elder' (rA HO_10.out) (Kd.R_base ho0) hb); have n1_ := Aside0.mk (Kd.R_elder' (rA HO_13.out) (Kd.R_base ho0) hb); have n2_ := Aside0.mk (Kd.R_below (rA HO_252000.out) hb); have n3_ := Aside0.mk (Kd.R_below (rA HO270.out) hb); have n4_ := Aside0.mk (Kd.R_lower (Kd.R_new' (Kd.R_new' ho0 (Kd.R_lt (rA HO_10.out))) (Kd.R_lt (rA HO_13.out))) (below_size bA)); have n5_ := Aside0.mk (blk_below (g:=gb237) (o:=.cells #[.slice A0_0 l0_0.length c0_0,.int .i64 a0_1] 24 (0,0)) (kA BK237.out) hb); have n6_ := Aside0.mk (blk_below (g:=gb251) (o:=.cells #[.slice Ao29 t263.length co29,.int .i64 t250] 28 (0,0)) (kA BK251.out) hb); have n7_ := Aside0.mk (below_step bA hb); clear HO_10; clear HO_13; clear HO_252000; clear HO270; clear BK237; clear BK251; clear HB; have HO_10 := n0_; have HO_13 := n1_; have HO_252000 := n2_; have HO270 := n3_; have HO274 := n4_; have BK237 := n5_; have BK251 := n6_; have HB := n7_; clear n0_ n1_ n2_ n3_ n4_ n5_ n6_ n7_; (try clear hb); (try clear hb2); (try clear hk); (try clear hi); (try clear ho0)))
             (try simp only [Act.put,setIfInBounds_toArray,set_cons_zero,set_cons_succ])
             go_cut [108] (fun v108 wc => ∃ (kq : Nat) (x108_65 : Bool),v108 = .bool x108_65 ∧ Aside0 (laws_FnExactListKeys.j2 kq t266 t265 x108_65 = some r) ∧ Aside0 (kq ≤ kj43) ∧ Aside0 (Kd.R Kd.string 9 wc w.heap.size (fun _ => True) (.slice Ao67 t252.length co67) t266) ∧ Aside0 (Kd.R k71 71 wc w.heap.size (fun _ => True) (.slice Ao29 t263.length co29) t263) ∧ Aside0 (wc.heap[gb237]? = some (.cells #[(.slice A0_0 l0_0.length c0_0),.int .i64 a0_1] 24 (0,0))) ∧ Aside0 (wc.heap[gb251]? = some (.cells #[(.slice Ao29 t263.length co29),.int .i64 t250] 28 (0,0))) ∧ Aside0 (Below w.heap.size w wc))
             case first =>
              have H := HC66.out
              clear HC66
              replace H := Option.bind_eq_some_iff.mp H
              obtain ⟨t276,A750,H⟩ := H
              try dsimp only at H
              have A75 := Aside0.mk A750
              clear A750
              by_cases c76 : t276 = true
              ·subst c76
               rw [if_pos rfl] at H
               have H' := Aside0.mk H
               clear H
               obtain ⟨Ao77,co77,eo77⟩ := Kd.R_slice HO274.out
               subst eo77
               obtain ⟨Ao78,co78,eo78⟩ := Kd.R_slice HO_10.out
               subst eo78
               go_wp2_with (first | ((with_reducible refine gate_callee (f:=16) rfl ?_); refine goesL_ (some 102) rfl rfl Try.func16 (by kernel_rfl) rfl #[.slice Ao77 t272.length co77,.slice Ao78 t243.length co78] rfl mA ?_; (with_reducible refine (laws_eqStringS.calls kj43 _ _ t272 _ _ t243 true _ ?side1 ?side2 ?side3 ?side4 A75.out).mono ?_); (case side1 => repeat (first | exact (Kd.R_reads' HO274.out).2.2 | (with_reducible refine Kd.C_alloc ?_ _) | (with_reducible refine Kd.C_drewN ?_ _) | (with_reducible refine Kd.C_drew ?_))); (case side2 => exact (Kd.R_reads' HO274.out).2.1); (case side3 => repeat (first | exact (Kd.R_reads' HO_10.out).2.2 | (with_reducible refine Kd.C_alloc ?_ _) | (with_reducible refine Kd.C_drewN ?_ _) | (with_reducible refine Kd.C_drew ?_))); (case side4 => exact (Kd.R_reads' HO_10.out).2.1); rintro e w' ⟨rfl,⟨nd,rfl⟩⟩; refine ⟨_,rfl,?_⟩))
               go_meet
               case rel => exact ⟨_,((t275 != t246)),(by first | rfl | (simp; done) | (simp [*]; done)),H',⟨by have := HJ17.out; have := HJ43.out; first | omega | exact Nat.le_refl _⟩,⟨by (try simp only [hl252000_43]); (with_reducible repeat (first | apply Kd.R_alloc | apply Kd.R_drewN | apply Kd.R_drew)); exact Kd.R_mono HO_13.out (fun _ hk => trivial)⟩,⟨by (try simp only [hl252000_43]); (with_reducible repeat (first | apply Kd.R_alloc | apply Kd.R_drewN | apply Kd.R_drew)); exact Kd.R_mono HO_252000.out (fun _ hk => trivial)⟩,⟨by (try simp only [hl252000_43]); (with_reducible repeat (first | refine blk_drewN ?_ _ | refine blk_drew ?_ | refine blk_alloc ?_ _)); exact BK237.out⟩,⟨by (try simp only [hl252000_43]); (with_reducible repeat (first | refine blk_drewN ?_ _ | refine blk_drew ?_ | refine blk_alloc ?_ _)); exact BK251.out⟩,⟨bA⟩⟩
              ·replace c76 := Bool.eq_false_iff.mpr c76
               subst c76
               rw [if_neg (show ¬ (false = true) by decide)] at H
               have H' := Aside0.mk H
               clear H
               obtain ⟨Ao79,co79,eo79⟩ := Kd.R_slice HO274.out
               subst eo79
               obtain ⟨Ao80,co80,eo80⟩ := Kd.R_slice HO_10.out
               subst eo80
               go_wp2_with (first | ((with_reducible refine gate_callee (f:=16) rfl ?_); refine goesL_ (some 102) rfl rfl Try.func16 (by kernel_rfl) rfl #[.slice Ao79 t272.length co79,.slice Ao80 t243.length co80] rfl mA ?_; (with_reducible refine (laws_eqStringS.calls kj43 _ _ t272 _ _ t243 false _ ?side1 ?side2 ?side3 ?side4 A75.out).mono ?_); (case side1 => repeat (first | exact (Kd.R_reads' HO274.out).2.2 | (with_reducible refine Kd.C_alloc ?_ _) | (with_reducible refine Kd.C_drewN ?_ _) | (with_reducible refine Kd.C_drew ?_))); (case side2 => exact (Kd.R_reads' HO274.out).2.1); (case side3 => repeat (first | exact (Kd.R_reads' HO_10.out).2.2 | (with_reducible refine Kd.C_alloc ?_ _) | (with_reducible refine Kd.C_drewN ?_ _) | (with_reducible refine Kd.C_drew ?_))); (case side4 => exact (Kd.R_reads' HO_10.out).2.1); rintro e w' ⟨rfl,⟨nd,rfl⟩⟩; refine ⟨_,rfl,?_⟩))
               go_meet
               case rel => exact ⟨_,(true),(by first | rfl | (simp; done) | (simp [*]; done)),H',⟨by have := HJ17.out; have := HJ43.out; first | omega | exact Nat.le_refl _⟩,⟨by (try simp only [hl252000_43]); (with_reducible repeat (first | apply Kd.R_alloc | apply Kd.R_drewN | apply Kd.R_drew)); exact Kd.R_mono HO_13.out (fun _ hk => trivial)⟩,⟨by (try simp only [hl252000_43]); (with_reducible repeat (first | apply Kd.R_alloc | apply Kd.R_drewN | apply Kd.R_drew)); exact Kd.R_mono HO_252000.out (fun _ hk => trivial)⟩,⟨by (try simp only [hl252000_43]); (with_reducible repeat (first | refine blk_drewN ?_ _ | refine blk_drew ?_ | refine blk_alloc ?_ _)); exact BK237.out⟩,⟨by (try simp only [hl252000_43]); (with_reducible repeat (first | refine blk_drewN ?_ _ | refine blk_drew ?_ | refine blk_alloc ?_ _)); exact BK251.out⟩,⟨bA⟩⟩
             case rest =>
              clear HC66
              try clear c1
              try clear p2
              try clear c3
              try clear c4
              try clear c5
              try clear c5b0
              try clear c5b1
              try clear c6
              try clear c7
              try clear c7b0
              try clear c7b1
              try clear c9
              try clear c10
              try clear c10b0
              try clear c11
              try clear c12
              try clear c14
              try clear c15
              try clear c16
              try clear c17
              try clear c18
              try clear c30
              try clear c34
              try clear c39
              try clear c42
              try clear c49
              try clear c52
              try clear c52b0
              try clear c54
              try clear c59
              try clear c62
              try clear c62b0
              try clear c63
              try clear c63b0
              try clear c63b1
              try clear c70
              try clear c76
              try clear hcz12_0
              try clear hcz12_1
              try clear hcz20_0
              try clear hcz20_1
              try clear hcz22_0
              try clear hcz22_1
              try clear hcz26_0
              try clear hcz26_1
              try clear hcz31_0
              try clear hcz31_1
              try clear hcz50_0
              try clear hcz50_1
              try clear hcz71_0
              try clear hcz71_1
              try clear hfz12_0
              try clear hfz12_1
              try clear hfz20_0
              try clear hfz20_1
              try clear hfz22_0
              try clear hfz22_1
              try clear hfz26_0
              try clear hfz26_1
              try clear hfz31_0
              try clear hfz31_1
              try clear hfz50_0
              try clear hfz50_1
              try clear hfz71_0
              try clear hfz71_1
              try clear p2
              obtain ⟨kq,x108_65,rfl,HA,HJ65,HO_13,HO_252000,BK237,BK251,HB⟩ := hcut
              have hl13_65 := (Kd.R_reads' HO_13.out).1
              rw [hl13_65] at HO_13
              (try simp only [hl13_65])
              (try simp only [hl13_65] at BK237)
              (try simp only [hl13_65] at BK251)
              (try simp only [hl13_65] at HO_252000)
              cases kq with
              | zero => exact absurd HA.out (by simp [laws_FnExactListKeys.j2])
              | succ kj65 =>
               have H := HA.out
               clear HA
               simp only [laws_FnExactListKeys.j2] at H
               by_cases c81 : x108_65 = true
               ·subst c81
                rw [if_pos rfl] at H
                exact absurd H (by simp)
               ·replace c81 := Bool.eq_false_iff.mpr c81
                subst c81
                rw [if_neg (show ¬ (false = true) by decide)] at H
                replace H := Option.bind_eq_some_iff.mp H
                obtain ⟨t277,A820,H⟩ := H
                try dsimp only at H
                have A82 := Aside0.mk A820
                clear A820
                by_cases c83 : t277 < 0
                ·rw [if_pos c83] at H
                 exact absurd H (by simp)
                ·rw [if_neg c83] at H
                 have c83b0 : decide (t277 < 0) = false := decide_eq_false c83
                 clear c83
                 by_cases c84 : t277 = t265
                 ·rw [if_pos c84] at H
                  have c84b0 : (t277 == t265) = true := beq_iff_eq.mpr c84
                  have c84b1 : (t277 != t265) = false := bne_eq_false_iff_eq.mpr c84
                  clear c84
                  obtain rfl := Option.some.inj H
                  go_wp2_with (first | ((with_reducible refine gate_callee (f:=18) rfl ?_); refine goesL_ (some 111) rfl rfl Try.func18 (by kernel_rfl) rfl #[.slice Ao67 t266.length co67,.int .i64 1] rfl mA ?_; (with_reducible refine (laws_heldStringS.calls kj65 _ _ t266 1 t277 _ ?side1 ?side2 A82.out).mono ?_); (case side1 => repeat (first | exact (Kd.R_reads' HO_13.out).2.2 | (with_reducible refine Kd.C_alloc ?_ _) | (with_reducible refine Kd.C_drewN ?_ _) | (with_reducible refine Kd.C_drew ?_))); (case side2 => exact (Kd.R_reads' HO_13.out).2.1); rintro e w85 ⟨rfl,hb⟩; refine ⟨_,rfl,?_⟩; have n0_ := Aside0.mk (Kd.R_below (rA HO_13.out) hb); have n1_ := Aside0.mk (Kd.R_below (rA HO_252000.out) hb); have n2_ := Aside0.mk (blk_below (g:=gb237) (o:=.cells #[.slice A0_0 l0_0.length c0_0,.int .i64 a0_1] 24 (0,0)) (kA BK237.out) hb); have n3_ := Aside0.mk (blk_below (g:=gb251) (o:=.cells #[.slice Ao29 t263.length co29,.int .i64 t250] 28 (0,0)) (kA BK251.out) hb); have n4_ := Aside0.mk (below_step bA hb); clear HO_13; clear HO_252000; clear BK237; clear BK251; clear HB; have HO_13 := n0_; have HO_252000 := n1_; have BK237 := n2_; have BK251 := n3_; have HB := n4_; clear n0_ n1_ n2_ n3_ n4_; (try clear hb); (try clear hb2); (try clear hk); (try clear hi)))
                  go_ret
                  exact ⟨by first | rfl | (simp [errW_none,errW_some] <;> rfl) | (simp [*,errW_none,errW_some] <;> rfl),bA⟩
                 ·rw [if_neg c84] at H
                  exact absurd H (by simp)
            ·rw [if_neg c63] at H
             exact absurd H (by simp)
       ·replace c42 := Bool.eq_false_iff.mpr c42
        subst c42
        rw [if_neg (show ¬ (false = true) by decide)] at H
        exact absurd H (by simp)

end Go.Proofs.Ytbodkbaniebfaaa.XFnExactListKeys
