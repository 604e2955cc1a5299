-- Printed by this session's own program wip/tools/xprint.py, which widens the kit's print. Not trusted: Lean checks it.
import Derived.Test.YtbodkbaniebfaaaXFnExactPutVersionx0
import Derived.Test.YtbodkbaniebfaaaXFnExactPutVersionx1
import Derived.Test.YtbodkbaniebfaaaXFnExactPutVersionx2
import Derived.Test.YtbodkbaniebfaaaXFnExactPutVersionx3
import Derived.Test.YtbodkbaniebfaaaXFnExactPutVersionx8
import Derived.Test.YtbodkbaniebfaaaXFnExactPutVersionx14
namespace Go.Proofs.Ytbodkbaniebfaaa.XFnExactPutVersion
open List (setIfInBounds_toArray set_cons_zero set_cons_succ)
open Go.RowKit Go.Proofs.YtbodkbaniebfaaaW.PrintWords Go.Proofs.YtbodkbaniebfaaaW.PrintLast Go.Proofs.YtbodkbaniebfaaaW.PrintMore
attribute [local go_sem] max2_int min2_int max_two min_two max_three min_three max_four min_four   -- for this text's walks alone
set_option linter.unusedVariables false
set_option linter.unusedSimpArgs false

/-! ### laws_FnExactPutVersion: function 6 -/
mutual
def laws_FnExactPutVersion.j0 : Nat → ByteArray → Int → ByteArray → Int → Int → Int → Int → Bool → List (S70) → Int → List (S71) → Int → List (S71) → Int → List (S71) → Int → Option (Bool)
 | 0,_,_,_,_,_,_,_,_,_,_,_,_,_,_,_,_ => none
 | k + 1,x1,x2,x3,x11,x12,x15,x16,x68,x368000,x368001,x380000,x380001,x385000,x385001,x392000,x392001 => if x68 = true then (none) else ((laws_toStore.f k x368000 x368001).bind fun bt393 => ((laws_eqStore.f k x385000 x385001 bt393.1 bt393.2).bind fun t397 => (if t397 = true then ((laws_markStore.f k x385000 x385001 1).bind fun bt398 => (if bt398.1 < 0 then (laws_FnExactPutVersion.j1 k x1 x2 x3 x11 x12 true x368000 x368001 x380000 x380001 x392000 x392001) else ((laws_eqStore.f k x392000 x392001 x380000 x380001).bind fun t400 => (if t400 = true then (if x15 = x11 then (laws_FnExactPutVersion.j1 k x1 x2 x3 x11 x12 (x16 != x12) x368000 x368001 x380000 x380001 x392000 x392001) else (laws_FnExactPutVersion.j1 k x1 x2 x3 x11 x12 true x368000 x368001 x380000 x380001 x392000 x392001)) else (laws_FnExactPutVersion.j1 k x1 x2 x3 x11 x12 true x368000 x368001 x380000 x380001 x392000 x392001))))) else (none))))
def laws_FnExactPutVersion.j1 : Nat → ByteArray → Int → ByteArray → Int → Int → Bool → List (S70) → Int → List (S71) → Int → List (S71) → Int → Option (Bool)
 | 0,_,_,_,_,_,_,_,_,_,_,_,_ => none
 | k + 1,x1,x2,x3,x11,x12,x94,x368000,x368001,x380000,x380001,x392000,x392001 => if x94 = true then (none) else ((laws_markStore.f k x392000 x392001 1).bind fun bt401 => ((laws_heldStore.f k bt401.2 x392001 1).bind fun t403 => (if t403 < 0 then (none) else (if t403 = bt401.1 then ((laws_toStore.f k x368000 x368001).bind fun bt404 => ((impl_PutVersion.f k bt404.1 bt404.2 x1 x2 x3).bind fun bt408 => ((laws_eqStore.f k bt408.1 bt408.2.1 x380000 x380001).bind fun t415 => (if t415 = true then (if bt408.2.2.1 = x11 then (laws_FnExactPutVersion.j2 k bt401.1 (bt408.2.2.2 != x12) bt401.2 x392001) else (laws_FnExactPutVersion.j2 k bt401.1 true bt401.2 x392001)) else (laws_FnExactPutVersion.j2 k bt401.1 true bt401.2 x392001))))) else (none)))))
def laws_FnExactPutVersion.j2 : Nat → Int → Bool → List (S71) → Int → Option (Bool)
 | 0,_,_,_,_ => none
 | k + 1,x18,x129,x392000,x392001 => if x129 = true then (none) else ((laws_heldStore.f k x392000 x392001 1).bind fun t416 => (if t416 < 0 then (none) else (if t416 = x18 then (some true) else (none))))
end
def laws_FnExactPutVersion.f (k : Nat) (l0_0 : List (S70)) (a0_1 : Int) (a1 : ByteArray) (a2 : Int) (a3 : ByteArray) : Option (Bool) := if (a1.size : Int) > 1048576 then (some true) else (if (a3.size : Int) > 1048576 then (some true) else ((laws_szStore.f k l0_0 a0_1 1048576).bind fun t368 => (if t368 < 0 then (some true) else ((laws_toStore.f k l0_0 a0_1).bind fun bt369 => ((spec_PutVersion.f k bt369.1 bt369.2 a1 a2 a3).bind fun bt373 => ((laws_toStore.f k l0_0 a0_1).bind fun bt380 => ((impl_PutVersion.f k bt380.1 bt380.2 a1 a2 a3).bind fun bt385 => ((laws_eqStore.f k bt385.1 bt385.2.1 bt373.1 bt373.2.1).bind fun t392 => (if t392 = true then (if bt385.2.2.1 = bt373.2.2.1 then (laws_FnExactPutVersion.j0 k a1 a2 a3 bt373.2.2.1 bt373.2.2.2 bt385.2.2.1 bt385.2.2.2 (bt385.2.2.2 != bt373.2.2.2) l0_0 a0_1 bt373.1 bt373.2.1 bt380.1 bt380.2 bt385.1 bt385.2.1) else (laws_FnExactPutVersion.j0 k a1 a2 a3 bt373.2.2.1 bt373.2.2.2 bt385.2.2.1 bt385.2.2.2 true l0_0 a0_1 bt373.1 bt373.2.1 bt380.1 bt380.2 bt385.1 bt385.2.1)) else (laws_FnExactPutVersion.j0 k a1 a2 a3 bt373.2.2.1 bt373.2.2.2 bt385.2.2.1 bt385.2.2.2 true l0_0 a0_1 bt373.1 bt373.2.1 bt380.1 bt380.2 bt385.1 bt385.2.1))))))))))
theorem laws_FnExactPutVersion.mono_l : ∀ k,(∀ y0 y1 y2 y3 y4 y5 y6 y7 y8 y9 y10 y11 y12 y13 y14 y15,LeO (laws_FnExactPutVersion.j0 k y0 y1 y2 y3 y4 y5 y6 y7 y8 y9 y10 y11 y12 y13 y14 y15) (laws_FnExactPutVersion.j0 (k + 1) y0 y1 y2 y3 y4 y5 y6 y7 y8 y9 y10 y11 y12 y13 y14 y15)) ∧ (∀ y0 y1 y2 y3 y4 y5 y6 y7 y8 y9 y10 y11,LeO (laws_FnExactPutVersion.j1 k y0 y1 y2 y3 y4 y5 y6 y7 y8 y9 y10 y11) (laws_FnExactPutVersion.j1 (k + 1) y0 y1 y2 y3 y4 y5 y6 y7 y8 y9 y10 y11)) ∧ (∀ y0 y1 y2 y3,LeO (laws_FnExactPutVersion.j2 k y0 y1 y2 y3) (laws_FnExactPutVersion.j2 (k + 1) y0 y1 y2 y3))
 | 0 => ⟨fun _ _ _ _ _ _ _ _ _ _ _ _ _ _ _ _ r h => by simp [laws_FnExactPutVersion.j0] at h,fun _ _ _ _ _ _ _ _ _ _ _ _ r h => by simp [laws_FnExactPutVersion.j1] at h,fun _ _ _ _ r h => by simp [laws_FnExactPutVersion.j2] at h⟩
 | k + 1 => by
  obtain ⟨ih0,ih1,ih2⟩ := laws_FnExactPutVersion.mono_l k
  refine ⟨?_,?_,?_⟩
  ·intro y0 y1 y2 y3 y4 y5 y6 y7 y8 y9 y10 y11 y12 y13 y14 y15
   unfold laws_FnExactPutVersion.j0
   repeat' first
   | (with_reducible exact ih0 _ _ _ _ _ _ _ _ _ _ _ _ _ _ _ _)
   | (with_reducible exact ih1 _ _ _ _ _ _ _ _ _ _ _ _)
   | (with_reducible exact ih2 _ _ _ _)
   | (with_reducible exact impl_PutVersion.mono _ _ _ _ _ _)
   | (with_reducible exact laws_eqStore.mono _ _ _ _ _)
   | (with_reducible exact laws_heldStore.mono _ _ _ _)
   | (with_reducible exact laws_markStore.mono _ _ _ _)
   | (with_reducible exact laws_szStore.mono _ _ _ _)
   | (with_reducible exact laws_toStore.mono _ _ _)
   | (with_reducible exact spec_PutVersion.mono _ _ _ _ _ _)
   | (with_reducible exact LeO.refl _)
   | (with_reducible exact LeO.none _)
   | (with_reducible refine LeO.ite ?_ ?_)
   | (with_reducible refine LeO.bind ?_ (fun _ => ?_))
   | exact ih0 _ _ _ _ _ _ _ _ _ _ _ _ _ _ _ _
   | exact ih1 _ _ _ _ _ _ _ _ _ _ _ _
   | exact ih2 _ _ _ _
   | exact impl_PutVersion.mono _ _ _ _ _ _
   | exact laws_eqStore.mono _ _ _ _ _
   | exact laws_heldStore.mono _ _ _ _
   | exact laws_markStore.mono _ _ _ _
   | exact laws_szStore.mono _ _ _ _
   | exact laws_toStore.mono _ _ _
   | exact spec_PutVersion.mono _ _ _ _ _ _
   | exact LeO.none _
   | refine LeO.ite ?_ ?_
   | refine LeO.bind ?_ (fun _ => ?_)
  ·intro y0 y1 y2 y3 y4 y5 y6 y7 y8 y9 y10 y11
   unfold laws_FnExactPutVersion.j1
   repeat' first
   | (with_reducible exact ih0 _ _ _ _ _ _ _ _ _ _ _ _ _ _ _ _)
   | (with_reducible exact ih1 _ _ _ _ _ _ _ _ _ _ _ _)
   | (with_reducible exact ih2 _ _ _ _)
   | (with_reducible exact impl_PutVersion.mono _ _ _ _ _ _)
   | (with_reducible exact laws_eqStore.mono _ _ _ _ _)
   | (with_reducible exact laws_heldStore.mono _ _ _ _)
   | (with_reducible exact laws_markStore.mono _ _ _ _)
   | (with_reducible exact laws_szStore.mono _ _ _ _)
   | (with_reducible exact laws_toStore.mono _ _ _)
   | (with_reducible exact spec_PutVersion.mono _ _ _ _ _ _)
   | (with_reducible exact LeO.refl _)
   | (with_reducible exact LeO.none _)
   | (with_reducible refine LeO.ite ?_ ?_)
   | (with_reducible refine LeO.bind ?_ (fun _ => ?_))
   | exact ih0 _ _ _ _ _ _ _ _ _ _ _ _ _ _ _ _
   | exact ih1 _ _ _ _ _ _ _ _ _ _ _ _
   | exact ih2 _ _ _ _
   | exact impl_PutVersion.mono _ _ _ _ _ _
   | exact laws_eqStore.mono _ _ _ _ _
   | exact laws_heldStore.mono _ _ _ _
   | exact laws_markStore.mono _ _ _ _
   | exact laws_szStore.mono _ _ _ _
   | exact laws_toStore.mono _ _ _
   | exact spec_PutVersion.mono _ _ _ _ _ _
   | exact LeO.none _
   | refine LeO.ite ?_ ?_
   | refine LeO.bind ?_ (fun _ => ?_)
  ·intro y0 y1 y2 y3
   unfold laws_FnExactPutVersion.j2
   repeat' first
   | (with_reducible exact ih0 _ _ _ _ _ _ _ _ _ _ _ _ _ _ _ _)
   | (with_reducible exact ih1 _ _ _ _ _ _ _ _ _ _ _ _)
   | (with_reducible exact ih2 _ _ _ _)
   | (with_reducible exact impl_PutVersion.mono _ _ _ _ _ _)
   | (with_reducible exact laws_eqStore.mono _ _ _ _ _)
   | (with_reducible exact laws_heldStore.mono _ _ _ _)
   | (with_reducible exact laws_markStore.mono _ _ _ _)
   | (with_reducible exact laws_szStore.mono _ _ _ _)
   | (with_reducible exact laws_toStore.mono _ _ _)
   | (with_reducible exact spec_PutVersion.mono _ _ _ _ _ _)
   | (with_reducible exact LeO.refl _)
   | (with_reducible exact LeO.none _)
   | (with_reducible refine LeO.ite ?_ ?_)
   | (with_reducible refine LeO.bind ?_ (fun _ => ?_))
   | exact ih0 _ _ _ _ _ _ _ _ _ _ _ _ _ _ _ _
   | exact ih1 _ _ _ _ _ _ _ _ _ _ _ _
   | exact ih2 _ _ _ _
   | exact impl_PutVersion.mono _ _ _ _ _ _
   | exact laws_eqStore.mono _ _ _ _ _
   | exact laws_heldStore.mono _ _ _ _
   | exact laws_markStore.mono _ _ _ _
   | exact laws_szStore.mono _ _ _ _
   | exact laws_toStore.mono _ _ _
   | exact spec_PutVersion.mono _ _ _ _ _ _
   | exact LeO.none _
   | refine LeO.ite ?_ ?_
   | refine LeO.bind ?_ (fun _ => ?_)
theorem laws_FnExactPutVersion.mono : ∀ a0 a1 a2 a3 a4 k,LeO (laws_FnExactPutVersion.f k a0 a1 a2 a3 a4) (laws_FnExactPutVersion.f (k + 1) a0 a1 a2 a3 a4) := by
 intro a0 a1 a2 a3 a4 k
 obtain ⟨ih0,ih1,ih2⟩ := laws_FnExactPutVersion.mono_l k
 unfold laws_FnExactPutVersion.f
 repeat' first
   | (with_reducible exact ih0 _ _ _ _ _ _ _ _ _ _ _ _ _ _ _ _)
   | (with_reducible exact ih1 _ _ _ _ _ _ _ _ _ _ _ _)
   | (with_reducible exact ih2 _ _ _ _)
   | (with_reducible exact impl_PutVersion.mono _ _ _ _ _ _)
   | (with_reducible exact laws_eqStore.mono _ _ _ _ _)
   | (with_reducible exact laws_heldStore.mono _ _ _ _)
   | (with_reducible exact laws_markStore.mono _ _ _ _)
   | (with_reducible exact laws_szStore.mono _ _ _ _)
   | (with_reducible exact laws_toStore.mono _ _ _)
   | (with_reducible exact spec_PutVersion.mono _ _ _ _ _ _)
   | (with_reducible exact LeO.refl _)
   | (with_reducible exact LeO.none _)
   | (with_reducible refine LeO.ite ?_ ?_)
   | (with_reducible refine LeO.bind ?_ (fun _ => ?_))
   | exact ih0 _ _ _ _ _ _ _ _ _ _ _ _ _ _ _ _
   | exact ih1 _ _ _ _ _ _ _ _ _ _ _ _
   | exact ih2 _ _ _ _
   | exact impl_PutVersion.mono _ _ _ _ _ _
   | exact laws_eqStore.mono _ _ _ _ _
   | exact laws_heldStore.mono _ _ _ _
   | exact laws_markStore.mono _ _ _ _
   | exact laws_szStore.mono _ _ _ _
   | exact laws_toStore.mono _ _ _
   | exact spec_PutVersion.mono _ _ _ _ _ _
   | exact LeO.none _
   | refine LeO.ite ?_ ?_
   | refine LeO.bind ?_ (fun _ => ?_)
set_option maxHeartbeats 8000000 in
set_option maxRecDepth 100000 in
theorem laws_FnExactPutVersion.calls (k : Nat) (A0_0 : Option Addr) (c0_0 : Nat) (l0_0 : List (S70)) (a0_1 : Int) (a1 : ByteArray) (a2 : Int) (a3 : ByteArray) (r : Bool) (w : World) (hr0_0 : Kd.C k70 w A0_0 l0_0.length l0_0) (hc0_0 : l0_0.length ≤ c0_0) (h : laws_FnExactPutVersion.f k l0_0 a0_1 a1 a2 a3 = some r) :
  Calls Try.prog 6 #[.agg #[.slice A0_0 l0_0.length c0_0,.int .i64 a0_1],.string a1,.int .i64 a2,.string a3] w fun e w' => e = .returned (.bool r) ∧ Below w.heap.size w w' := by
 have hu24 := Try.underlying24
 have hu28 := Try.underlying28
 have HR0_0 := Aside0.mk hr0_0
 have HC0_0 := Aside0.mk hc0_0
 clear hr0_0 hc0_0
 have HB := Aside0.mk (Below.refl w.heap.size w)
 have H : (if (a1.size : Int) > 1048576 then (some true) else (if (a3.size : Int) > 1048576 then (some true) else ((laws_szStore.f k l0_0 a0_1 1048576).bind fun t368 => (if t368 < 0 then (some true) else ((laws_toStore.f k l0_0 a0_1).bind fun bt369 => ((spec_PutVersion.f k bt369.1 bt369.2 a1 a2 a3).bind fun bt373 => ((laws_toStore.f k l0_0 a0_1).bind fun bt380 => ((impl_PutVersion.f k bt380.1 bt380.2 a1 a2 a3).bind fun bt385 => ((laws_eqStore.f k bt385.1 bt385.2.1 bt373.1 bt373.2.1).bind fun t392 => (if t392 = true then (if bt385.2.2.1 = bt373.2.2.1 then (laws_FnExactPutVersion.j0 k a1 a2 a3 bt373.2.2.1 bt373.2.2.2 bt385.2.2.1 bt385.2.2.2 (bt385.2.2.2 != bt373.2.2.2) l0_0 a0_1 bt373.1 bt373.2.1 bt380.1 bt380.2 bt385.1 bt385.2.1) else (laws_FnExactPutVersion.j0 k a1 a2 a3 bt373.2.2.1 bt373.2.2.2 bt385.2.2.1 bt385.2.2.2 true l0_0 a0_1 bt373.1 bt373.2.1 bt380.1 bt380.2 bt385.1 bt385.2.1)) else (laws_FnExactPutVersion.j0 k a1 a2 a3 bt373.2.2.1 bt373.2.2.2 bt385.2.2.1 bt385.2.2.2 true l0_0 a0_1 bt373.1 bt373.2.1 bt380.1 bt380.2 bt385.1 bt385.2.1))))))))))) = some r := h
 clear h
 by_cases c5 : (a1.size : Int) > 1048576
 ·rw [if_pos c5] at H
  have c5b0 : decide (1048576 < (a1.size : Int)) = true := decide_eq_true c5
  have c5b1 : decide (1048576 < a1.size) = true := decide_eq_true (by omega)
  clear c5
  obtain rfl := Option.some.inj H
  go_enter Try.func6,Try.ntmps6
  go_wp2_with (first | ((with_reducible refine gate_dst (N:=4) rfl ?_); refine box_event ?hg (N:=4) ?hd (cs := #[.slice A0_0 l0_0.length c0_0,.int .i64 a0_1]) (t:=24) ?hr ?_; (case hd => rfl); (case hg => rfl); (case hr => first | (go_simp; done) | (go_simp; rfl)); intro gb367 hg w6 hbox hb; have n0_ := Aside0.mk (below_step bA hb); have n1_ := Aside0.mk (hbox); have n2_ := Aside0.mk ((by rw [hg]; exact (below_size bA) : w.heap.size ≤ gb367)); have n3_ := Aside0.mk ((by rw [hg]; exact (below_size bA) : w.heap.size ≤ gb367)); clear HB; have HB := n0_; have BK367 := n1_; have GW367 := n2_; have GE367 := n3_; clear n0_ n1_ n2_ n3_; clear hb hbox hg))
  go_ret
  exact ⟨by first | rfl | (simp [errW_none,errW_some] <;> rfl) | (simp [*,errW_none,errW_some] <;> rfl),bA⟩
 ·rw [if_neg c5] at H
  have c5b0 : decide (1048576 < (a1.size : Int)) = false := decide_eq_false c5
  have c5b1 : decide (1048576 < a1.size) = false := decide_eq_false (by omega)
  clear c5
  by_cases c7 : (a3.size : Int) > 1048576
  ·rw [if_pos c7] at H
   have c7b0 : decide (1048576 < (a3.size : Int)) = true := decide_eq_true c7
   have c7b1 : decide (1048576 < a3.size) = true := decide_eq_true (by omega)
   clear c7
   obtain rfl := Option.some.inj H
   go_enter Try.func6,Try.ntmps6
   go_wp2_with (first | ((with_reducible refine gate_dst (N:=4) rfl ?_); refine box_event ?hg (N:=4) ?hd (cs := #[.slice A0_0 l0_0.length c0_0,.int .i64 a0_1]) (t:=24) ?hr ?_; (case hd => rfl); (case hg => rfl); (case hr => first | (go_simp; done) | (go_simp; rfl)); intro gb367 hg w8 hbox hb; have n0_ := Aside0.mk (below_step bA hb); have n1_ := Aside0.mk (hbox); have n2_ := Aside0.mk ((by rw [hg]; exact (below_size bA) : w.heap.size ≤ gb367)); have n3_ := Aside0.mk ((by rw [hg]; exact (below_size bA) : w.heap.size ≤ gb367)); clear HB; have HB := n0_; have BK367 := n1_; have GW367 := n2_; have GE367 := n3_; clear n0_ n1_ n2_ n3_; clear hb hbox hg))
   go_ret
   exact ⟨by first | rfl | (simp [errW_none,errW_some] <;> rfl) | (simp [*,errW_none,errW_some] <;> rfl),bA⟩
  ·rw [if_neg c7] at H
   have c7b0 : decide (1048576 < (a3.size : Int)) = false := decide_eq_false c7
   have c7b1 : decide (1048576 < a3.size) = false := decide_eq_false (by omega)
   clear c7
   replace H := Option.bind_eq_some_iff.mp H
   obtain ⟨t368,A90,H⟩ := H
   try dsimp only at H
   have A9 := Aside0.mk A90
   clear A90
   by_cases c10 : t368 < 0
   ·rw [if_pos c10] at H
    have c10b0 : decide (t368 < 0) = true := decide_eq_true c10
    clear c10
    obtain rfl := Option.some.inj H
    go_enter Try.func6,Try.ntmps6
    go_wp2_with (first | ((with_reducible refine gate_dst (N:=4) rfl ?_); refine box_event ?hg (N:=4) ?hd (cs := #[.slice A0_0 l0_0.length c0_0,.int .i64 a0_1]) (t:=24) ?hr ?_; (case hd => rfl); (case hg => rfl); (case hr => first | (go_simp; done) | (go_simp; rfl)); intro gb367 hg w11 hbox hb; have n0_ := Aside0.mk (below_step bA hb); have n1_ := Aside0.mk (hbox); have n2_ := Aside0.mk ((by rw [hg]; exact (below_size bA) : w.heap.size ≤ gb367)); have n3_ := Aside0.mk ((by rw [hg]; exact (below_size bA) : w.heap.size ≤ gb367)); clear HB; have HB := n0_; have BK367 := n1_; have GW367 := n2_; have GE367 := n3_; clear n0_ n1_ n2_ n3_; clear hb hbox hg; have hcz12_0 : w11.cell? ⟨gb367,0,none⟩ = some (.slice A0_0 l0_0.length c0_0) := (blk_cell BK367.out 0).trans rfl; have hcz12_1 : w11.cell? ⟨gb367,1,none⟩ = some (.int .i64 a0_1) := (blk_cell BK367.out 1).trans rfl; have hfz12_0 := blk_frozen BK367.out 0; have hfz12_1 := blk_frozen BK367.out 1) | ((with_reducible refine gate_callee (f:=7) rfl ?_); refine goesL_ (some 31) rfl rfl Try.func7 (by kernel_rfl) rfl #[.agg #[.slice A0_0 l0_0.length c0_0,.int .i64 a0_1],.int .i64 1048576] rfl mA ?_; (with_reducible refine (laws_szStore.calls k _ _ l0_0 a0_1 1048576 t368 _ ?side1 ?side2 A9.out).mono ?_); (case side1 => repeat (first | exact (Kd.C_below HR0_0.out HB.out) | (with_reducible refine Kd.C_alloc ?_ _) | (with_reducible refine Kd.C_drewN ?_ _) | (with_reducible refine Kd.C_drew ?_))); (case side2 => exact HC0_0.out); rintro e w13 ⟨rfl,hb⟩; refine ⟨_,rfl,?_⟩; have n0_ := Aside0.mk (blk_below (g:=gb367) (o:=.cells #[.slice A0_0 l0_0.length c0_0,.int .i64 a0_1] 24 (0,0)) (kA BK367.out) hb); have n1_ := Aside0.mk (below_step bA hb); clear BK367; clear HB; have BK367 := n0_; have HB := n1_; clear n0_ n1_; (try clear hb); (try clear hb2); (try clear hk); (try clear hi)))
    go_ret
    exact ⟨by first | rfl | (simp [errW_none,errW_some] <;> rfl) | (simp [*,errW_none,errW_some] <;> rfl),bA⟩
   ·rw [if_neg c10] at H
    have c10b0 : decide (t368 < 0) = false := decide_eq_false c10
    clear c10
    replace H := Option.bind_eq_some_iff.mp H
    obtain ⟨⟨t369,t372⟩,A140,H⟩ := H
    try dsimp only at H
    have A14 := Aside0.mk A140
    clear A140
    replace H := Option.bind_eq_some_iff.mp H
    obtain ⟨⟨t373,t376,t377,t378⟩,A150,H⟩ := H
    try dsimp only at H
    have A15 := Aside0.mk A150
    clear A150
    replace H := Option.bind_eq_some_iff.mp H
    obtain ⟨⟨t380,t383⟩,A160,H⟩ := H
    try dsimp only at H
    have A16 := Aside0.mk A160
    clear A160
    replace H := Option.bind_eq_some_iff.mp H
    obtain ⟨⟨t385,t388,t389,t390⟩,A170,H⟩ := H
    try dsimp only at H
    have A17 := Aside0.mk A170
    clear A170
    have HC18 := Aside0.mk H
    clear H
    go_enter Try.func6,Try.ntmps6
    go_upto_region 12 with (first | ((with_reducible refine gate_dst (N:=4) rfl ?_); refine box_event ?hg (N:=4) ?hd (cs := #[.slice A0_0 l0_0.length c0_0,.int .i64 a0_1]) (t:=24) ?hr ?_; (case hd => rfl); (case hg => rfl); (case hr => first | (go_simp; done) | (go_simp; rfl)); intro gb367 hg w19 hbox hb; have n0_ := Aside0.mk (below_step bA hb); have n1_ := Aside0.mk (hbox); have n2_ := Aside0.mk ((by rw [hg]; exact (below_size bA) : w.heap.size ≤ gb367)); have n3_ := Aside0.mk ((by rw [hg]; exact (below_size bA) : w.heap.size ≤ gb367)); clear HB; have HB := n0_; have BK367 := n1_; have GW367 := n2_; have GE367 := n3_; clear n0_ n1_ n2_ n3_; clear hb hbox hg; have hcz20_0 : w19.cell? ⟨gb367,0,none⟩ = some (.slice A0_0 l0_0.length c0_0) := (blk_cell BK367.out 0).trans rfl; have hcz20_1 : w19.cell? ⟨gb367,1,none⟩ = some (.int .i64 a0_1) := (blk_cell BK367.out 1).trans rfl; have hfz20_0 := blk_frozen BK367.out 0; have hfz20_1 := blk_frozen BK367.out 1) | ((with_reducible refine gate_callee (f:=7) rfl ?_); refine goesL_ (some 31) rfl rfl Try.func7 (by kernel_rfl) rfl #[.agg #[.slice A0_0 l0_0.length c0_0,.int .i64 a0_1],.int .i64 1048576] rfl mA ?_; (with_reducible refine (laws_szStore.calls k _ _ l0_0 a0_1 1048576 t368 _ ?side1 ?side2 A9.out).mono ?_); (case side1 => repeat (first | exact (Kd.C_below HR0_0.out HB.out) | (with_reducible refine Kd.C_alloc ?_ _) | (with_reducible refine Kd.C_drewN ?_ _) | (with_reducible refine Kd.C_drew ?_))); (case side2 => exact HC0_0.out); rintro e w21 ⟨rfl,hb⟩; refine ⟨_,rfl,?_⟩; have n0_ := Aside0.mk (blk_below (g:=gb367) (o:=.cells #[.slice A0_0 l0_0.length c0_0,.int .i64 a0_1] 24 (0,0)) (kA BK367.out) hb); have n1_ := Aside0.mk (below_step bA hb); clear BK367; clear HB; have BK367 := n0_; have HB := n1_; clear n0_ n1_; (try clear hb); (try clear hb2); (try clear hk); (try clear hi); have hcz22_0 : w21.cell? ⟨gb367,0,none⟩ = some (.slice A0_0 l0_0.length c0_0) := (blk_cell BK367.out 0).trans rfl; have hcz22_1 : w21.cell? ⟨gb367,1,none⟩ = some (.int .i64 a0_1) := (blk_cell BK367.out 1).trans rfl; have hfz22_0 := blk_frozen BK367.out 0; have hfz22_1 := blk_frozen BK367.out 1) | ((with_reducible refine gate_callee (f:=9) rfl ?_); refine goesL_ (some 36) rfl rfl Try.func9 (by kernel_rfl) rfl #[.agg #[.slice A0_0 l0_0.length c0_0,.int .i64 a0_1]] rfl mA ?_; (with_reducible refine (laws_toStore.calls k _ _ l0_0 a0_1 t369 t372 _ ?side1 ?side2 A14.out).mono ?_); (case side1 => repeat (first | exact (Kd.C_below HR0_0.out HB.out) | (with_reducible refine Kd.C_alloc ?_ _) | (with_reducible refine Kd.C_drewN ?_ _) | (with_reducible refine Kd.C_drew ?_))); (case side2 => exact HC0_0.out); rintro e w23 ⟨v370,rfl,ho0,hb⟩; refine ⟨_,rfl,?_⟩; have n0_ := Aside0.mk (Kd.R_lower ho0 (below_size bA)); have n1_ := Aside0.mk (blk_below (g:=gb367) (o:=.cells #[.slice A0_0 l0_0.length c0_0,.int .i64 a0_1] 24 (0,0)) (kA BK367.out) hb); have n2_ := Aside0.mk (below_step bA hb); clear BK367; clear HB; have HO371 := n0_; have BK367 := n1_; have HB := n2_; clear n0_ n1_ n2_; (try clear hb); (try clear hb2); (try clear hk); (try clear hi); (try clear ho0); obtain ⟨Ao24,co24,eo24⟩ := Kd.R_slice HO371.out; subst eo24) | ((with_reducible refine gate_callee (f:=21) rfl ?_); refine goesL_ (some 40) rfl rfl Try.func21 (by kernel_rfl) rfl #[.agg #[.slice Ao24 t369.length co24,.int .i64 t372],.string a1,.int .i64 a2,.string a3] rfl mA ?_; (with_reducible refine (spec_PutVersion.calls k _ _ t369 t372 a1 a2 a3 t373 t376 t377 t378 _ ?side1 ?side2 A15.out).mono ?_); (case side1 => repeat (first | exact (Kd.R_reads' HO371.out).2.2 | (with_reducible refine Kd.C_alloc ?_ _) | (with_reducible refine Kd.C_drewN ?_ _) | (with_reducible refine Kd.C_drew ?_))); (case side2 => exact (Kd.R_reads' HO371.out).2.1); rintro e w25 ⟨v374,rfl,ho0,hb⟩; refine ⟨_,rfl,?_⟩; have n0_ := Aside0.mk (Kd.R_elder' (rA HO371.out) (Kd.R_base ho0) hb); have n1_ := Aside0.mk (Kd.R_lower (Kd.R_new' ho0 (Kd.R_lt (rA HO371.out))) (below_size bA)); have n2_ := Aside0.mk (blk_below (g:=gb367) (o:=.cells #[.slice A0_0 l0_0.length c0_0,.int .i64 a0_1] 24 (0,0)) (kA BK367.out) hb); have n3_ := Aside0.mk (below_step bA hb); clear HO371; clear BK367; clear HB; have HO371 := n0_; have HO375 := n1_; have BK367 := n2_; have HB := n3_; clear n0_ n1_ n2_ n3_; (try clear hb); (try clear hb2); (try clear hk); (try clear hi); (try clear ho0)) | ((with_reducible refine gate_dst (N:=10) rfl ?_); refine box_event ?hg (N:=10) ?hd (cs := #[.slice none 0 0,.int .i64 0]) (t:=28) ?hr ?_; (case hd => rfl); (case hg => rfl); (case hr => first | (go_simp; done) | (go_simp; rfl)); intro gb379 hg w26 hbox hb; have n0_ := Aside0.mk (Kd.R_below (rA HO371.out) hb); have n1_ := Aside0.mk (Kd.R_below (rA HO375.out) hb); have n2_ := Aside0.mk (blk_below (g:=gb367) (o:=.cells #[.slice A0_0 l0_0.length c0_0,.int .i64 a0_1] 24 (0,0)) (kA BK367.out) hb); have n3_ := Aside0.mk (below_step bA hb); have n4_ := Aside0.mk (hbox); have n5_ := Aside0.mk ((by rw [hg]; exact (below_size bA) : w.heap.size ≤ gb379)); have n6_ := Aside0.mk ((by rw [hg]; exact (below_size bA) : w.heap.size ≤ gb379)); have n7_ := Aside0.mk ((by rw [hg]; exact Nat.ne_of_lt (blk_lt (g:=gb367) (o:=.cells #[.slice A0_0 l0_0.length c0_0,.int .i64 a0_1] 24 (0,0)) (kA BK367.out)) : gb367 ≠ gb379)); have n8_ := Aside0.mk ((by rw [hg]; exact Nat.ne_of_gt (blk_lt (g:=gb367) (o:=.cells #[.slice A0_0 l0_0.length c0_0,.int .i64 a0_1] 24 (0,0)) (kA BK367.out)) : gb379 ≠ gb367)); clear HO371; clear HO375; clear BK367; clear HB; have HO371 := n0_; have HO375 := n1_; have BK367 := n2_; have HB := n3_; have BK379 := n4_; have GW379 := n5_; have GE379 := n6_; have NB367_379 := n7_; have NB379_367 := n8_; clear n0_ n1_ n2_ n3_ n4_ n5_ n6_ n7_ n8_; clear hb hbox hg; obtain ⟨Ao27,co27,eo27⟩ := Kd.R_slice HO375.out; subst eo27; have hnb28 := NB379_367.out; have hnc28 := NB367_379.out; have hcz29_0 : w26.cell? ⟨gb379,0,none⟩ = some (.slice none 0 0) := (blk_cell BK379.out 0).trans rfl; have hcz29_1 : w26.cell? ⟨gb379,1,none⟩ = some (.int .i64 0) := (blk_cell BK379.out 1).trans rfl; have hfz29_0 := blk_frozen BK379.out 0; have hfz29_1 := blk_frozen BK379.out 1; have hcz30_0 : w26.cell? ⟨gb367,0,none⟩ = some (.slice A0_0 l0_0.length c0_0) := (blk_cell BK367.out 0).trans rfl; have hcz30_1 : w26.cell? ⟨gb367,1,none⟩ = some (.int .i64 a0_1) := (blk_cell BK367.out 1).trans rfl; have hfz30_0 := blk_frozen BK367.out 0; have hfz30_1 := blk_frozen BK367.out 1) | ((with_reducible refine gate_callee (f:=9) rfl ?_); refine goesL_ (some 45) rfl rfl Try.func9 (by kernel_rfl) rfl #[.agg #[.slice A0_0 l0_0.length c0_0,.int .i64 a0_1]] rfl mA ?_; (with_reducible refine (laws_toStore.calls k _ _ l0_0 a0_1 t380 t383 _ ?side1 ?side2 A16.out).mono ?_); (case side1 => exact Kd.C_below HR0_0.out bA); (case side2 => exact HC0_0.out); rintro e w31 ⟨v381,rfl,ho0,hb⟩; refine ⟨_,rfl,?_⟩; have n0_ := Aside0.mk (Kd.R_elder' (by (with_reducible repeat (first | apply Kd.R_alloc | apply Kd.R_drewN | apply Kd.R_drew)); exact (Kd.R_mono (Kd.R_far (p:=⟨gb379,1,none⟩) (Kd.R_far (p:=⟨gb379,0,none⟩) (Kd.R_types HO371.out BK379.out (by decide)) (fun _ hk => hk.2) (.slice Ao27 t373.length co27)) (fun _ hk => hk.2) (.int .i64 t376)) (fun _ h_ => h_.1))) (Kd.R_base ho0) hb); have n1_ := Aside0.mk (Kd.R_elder' (by (with_reducible repeat (first | apply Kd.R_alloc | apply Kd.R_drewN | apply Kd.R_drew)); exact (Kd.R_mono (Kd.R_far (p:=⟨gb379,1,none⟩) (Kd.R_far (p:=⟨gb379,0,none⟩) (Kd.R_types HO375.out BK379.out (by decide)) (fun _ hk => hk.2) (.slice Ao27 t373.length co27)) (fun _ hk => hk.2) (.int .i64 t376)) (fun _ h_ => h_.1))) (Kd.R_base ho0) hb); have n2_ := Aside0.mk (Kd.R_lower (Kd.R_new' (Kd.R_new' ho0 (Kd.R_lt (by (with_reducible repeat (first | apply Kd.R_alloc | apply Kd.R_drewN | apply Kd.R_drew)); exact (Kd.R_mono (Kd.R_far (p:=⟨gb379,1,none⟩) (Kd.R_far (p:=⟨gb379,0,none⟩) (Kd.R_types HO371.out BK379.out (by decide)) (fun _ hk => hk.2) (.slice Ao27 t373.length co27)) (fun _ hk => hk.2) (.int .i64 t376)) (fun _ h_ => h_.1))))) (Kd.R_lt (by (with_reducible repeat (first | apply Kd.R_alloc | apply Kd.R_drewN | apply Kd.R_drew)); exact (Kd.R_mono (Kd.R_far (p:=⟨gb379,1,none⟩) (Kd.R_far (p:=⟨gb379,0,none⟩) (Kd.R_types HO375.out BK379.out (by decide)) (fun _ hk => hk.2) (.slice Ao27 t373.length co27)) (fun _ hk => hk.2) (.int .i64 t376)) (fun _ h_ => h_.1))))) (below_size bA)); have n3_ := Aside0.mk (blk_below (g:=gb367) (o:=.cells #[.slice A0_0 l0_0.length c0_0,.int .i64 a0_1] 24 (0,0)) (kF BK367.out) hb); have n4_ := Aside0.mk (blk_below (g:=gb379) (o:=.cells #[.slice Ao27 t373.length co27,.int .i64 t376] 28 (0,0)) (by (with_reducible repeat (first | refine blk_drewN ?_ _ | refine blk_drew ?_ | refine blk_alloc ?_ _)); refine blk_put (cs := #[.slice Ao27 t373.length co27,.int .i64 0]) ?_ 1 _ rfl; (with_reducible repeat (first | refine blk_drewN ?_ _ | refine blk_drew ?_ | refine blk_alloc ?_ _)); refine blk_put (cs := #[.slice none 0 0,.int .i64 0]) ?_ 0 _ rfl; (with_reducible repeat (first | refine blk_drewN ?_ _ | refine blk_drew ?_ | refine blk_alloc ?_ _)); exact BK379.out) hb); have n5_ := Aside0.mk (below_step bA hb); clear HO371; clear HO375; clear BK367; clear BK379; clear HB; have HO371 := n0_; have HO375 := n1_; have HO382 := n2_; have BK367 := n3_; have BK379 := n4_; have HB := n5_; clear n0_ n1_ n2_ n3_ n4_ n5_; (try clear hb); (try clear hb2); (try clear hk); (try clear hi); (try clear ho0)) | ((with_reducible refine gate_dst (N:=13) rfl ?_); refine box_event ?hg (N:=13) ?hd (cs := #[.slice none 0 0,.int .i64 0]) (t:=28) ?hr ?_; (case hd => rfl); (case hg => rfl); (case hr => first | (go_simp; done) | (go_simp; rfl)); intro gb384 hg w32 hbox hb; have n0_ := Aside0.mk (Kd.R_below (rA HO371.out) hb); have n1_ := Aside0.mk (Kd.R_below (rA HO375.out) hb); have n2_ := Aside0.mk (Kd.R_below (rA HO382.out) hb); have n3_ := Aside0.mk (blk_below (g:=gb367) (o:=.cells #[.slice A0_0 l0_0.length c0_0,.int .i64 a0_1] 24 (0,0)) (kA BK367.out) hb); have n4_ := Aside0.mk (blk_below (g:=gb379) (o:=.cells #[.slice Ao27 t373.length co27,.int .i64 t376] 28 (0,0)) (kA BK379.out) hb); have n5_ := Aside0.mk (below_step bA hb); have n6_ := Aside0.mk (hbox); have n7_ := Aside0.mk ((by rw [hg]; exact (below_size bA) : w.heap.size ≤ gb384)); have n8_ := Aside0.mk ((by rw [hg]; exact (below_size bA) : w.heap.size ≤ gb384)); have n9_ := Aside0.mk ((by rw [hg]; exact Nat.ne_of_lt (blk_lt (g:=gb367) (o:=.cells #[.slice A0_0 l0_0.length c0_0,.int .i64 a0_1] 24 (0,0)) (kA BK367.out)) : gb367 ≠ gb384)); have n10_ := Aside0.mk ((by rw [hg]; exact Nat.ne_of_gt (blk_lt (g:=gb367) (o:=.cells #[.slice A0_0 l0_0.length c0_0,.int .i64 a0_1] 24 (0,0)) (kA BK367.out)) : gb384 ≠ gb367)); have n11_ := Aside0.mk ((by rw [hg]; exact Nat.ne_of_lt (blk_lt (g:=gb379) (o:=.cells #[.slice Ao27 t373.length co27,.int .i64 t376] 28 (0,0)) (kA BK379.out)) : gb379 ≠ gb384)); have n12_ := Aside0.mk ((by rw [hg]; exact Nat.ne_of_gt (blk_lt (g:=gb379) (o:=.cells #[.slice Ao27 t373.length co27,.int .i64 t376] 28 (0,0)) (kA BK379.out)) : gb384 ≠ gb379)); clear HO371; clear HO375; clear HO382; clear BK367; clear BK379; clear HB; have HO371 := n0_; have HO375 := n1_; have HO382 := n2_; have BK367 := n3_; have BK379 := n4_; have HB := n5_; have BK384 := n6_; have GW384 := n7_; have GE384 := n8_; have NB367_384 := n9_; have NB384_367 := n10_; have NB379_384 := n11_; have NB384_379 := n12_; clear n0_ n1_ n2_ n3_ n4_ n5_ n6_ n7_ n8_ n9_ n10_ n11_ n12_; clear hb hbox hg; obtain ⟨Ao33,co33,eo33⟩ := Kd.R_slice HO382.out; subst eo33; have hnb34 := NB384_367.out; have hnc34 := NB367_384.out; have hnb35 := NB384_379.out; have hnc35 := NB379_384.out; have hcz36_0 : w32.cell? ⟨gb384,0,none⟩ = some (.slice none 0 0) := (blk_cell BK384.out 0).trans rfl; have hcz36_1 : w32.cell? ⟨gb384,1,none⟩ = some (.int .i64 0) := (blk_cell BK384.out 1).trans rfl; have hfz36_0 := blk_frozen BK384.out 0; have hfz36_1 := blk_frozen BK384.out 1) | ((with_reducible refine gate_callee (f:=22) rfl ?_); refine goesL_ (some 51) rfl rfl Try.func22 (by kernel_rfl) rfl #[.agg #[.slice Ao33 t380.length co33,.int .i64 t383],.string a1,.int .i64 a2,.string a3] rfl mA ?_; (with_reducible refine (impl_PutVersion.calls k _ _ t380 t383 a1 a2 a3 t385 t388 t389 t390 _ ?side1 ?side2 A17.out).mono ?_); (case side1 => refine (Kd.R_reads' (e:=71) (base := w.heap.size) (ok := fun k_ => ((True ∧ some k_ ≠ (.slice Ao24 t369.length co24 : Value).ownBlock) ∧ some k_ ≠ (.slice Ao27 t373.length co27 : Value).ownBlock)) (n:=t380.length) (c:=co33) ?_).2.2; exact (by (with_reducible repeat (first | apply Kd.R_alloc | apply Kd.R_drewN | apply Kd.R_drew)); exact (Kd.R_mono (Kd.R_far (p:=⟨gb384,1,none⟩) (Kd.R_far (p:=⟨gb384,0,none⟩) (Kd.R_types HO382.out BK384.out (by decide)) (fun _ hk => hk.2) (.slice Ao33 t380.length co33)) (fun _ hk => hk.2) (.int .i64 t383)) (fun _ h_ => h_.1)))); (case side2 => exact (Kd.R_reads' HO382.out).2.1); rintro e w37 ⟨v386,rfl,ho0,hb⟩; refine ⟨_,rfl,?_⟩; have n0_ := Aside0.mk (Kd.R_elder' (by (with_reducible repeat (first | apply Kd.R_alloc | apply Kd.R_drewN | apply Kd.R_drew)); exact (Kd.R_mono (Kd.R_far (p:=⟨gb384,1,none⟩) (Kd.R_far (p:=⟨gb384,0,none⟩) (Kd.R_types HO371.out BK384.out (by decide)) (fun _ hk => hk.2) (.slice Ao33 t380.length co33)) (fun _ hk => hk.2) (.int .i64 t383)) (fun _ h_ => h_.1))) (Kd.R_base ho0) hb); have n1_ := Aside0.mk (Kd.R_elder' (by (with_reducible repeat (first | apply Kd.R_alloc | apply Kd.R_drewN | apply Kd.R_drew)); exact (Kd.R_mono (Kd.R_far (p:=⟨gb384,1,none⟩) (Kd.R_far (p:=⟨gb384,0,none⟩) (Kd.R_types HO375.out BK384.out (by decide)) (fun _ hk => hk.2) (.slice Ao33 t380.length co33)) (fun _ hk => hk.2) (.int .i64 t383)) (fun _ h_ => h_.1))) (Kd.R_base ho0) hb); have n2_ := Aside0.mk (Kd.R_elder' (by (with_reducible repeat (first | apply Kd.R_alloc | apply Kd.R_drewN | apply Kd.R_drew)); exact (Kd.R_mono (Kd.R_far (p:=⟨gb384,1,none⟩) (Kd.R_far (p:=⟨gb384,0,none⟩) (Kd.R_types HO382.out BK384.out (by decide)) (fun _ hk => hk.2) (.slice Ao33 t380.length co33)) (fun _ hk => hk.2) (.int .i64 t383)) (fun _ h_ => h_.1))) (Kd.R_base ho0) hb); have n3_ := Aside0.mk (Kd.R_lower (Kd.R_new' (Kd.R_new' (Kd.R_new' ho0 (Kd.R_lt (by (with_reducible repeat (first | apply Kd.R_alloc | apply Kd.R_drewN | apply Kd.R_drew)); exact (Kd.R_mono (Kd.R_far (p:=⟨gb384,1,none⟩) (Kd.R_far (p:=⟨gb384,0,none⟩) (Kd.R_types HO371.out BK384.out (by decide)) (fun _ hk => hk.2) (.slice Ao33 t380.length co33)) (fun _ hk => hk.2) (.int .i64 t383)) (fun _ h_ => h_.1))))) (Kd.R_lt (by (with_reducible repeat (first | apply Kd.R_alloc | apply Kd.R_drewN | apply Kd.R_drew)); exact (Kd.R_mono (Kd.R_far (p:=⟨gb384,1,none⟩) (Kd.R_far (p:=⟨gb384,0,none⟩) (Kd.R_types HO375.out BK384.out (by decide)) (fun _ hk => hk.2) (.slice Ao33 t380.length co33)) (fun _ hk => hk.2) (.int .i64 t383)) (fun _ h_ => h_.1))))) (Kd.R_lt (by (with_reducible repeat (first | apply Kd.R_alloc | apply Kd.R_drewN | apply Kd.R_drew)); exact (Kd.R_mono (Kd.R_far (p:=⟨gb384,1,none⟩) (Kd.R_far (p:=⟨gb384,0,none⟩) (Kd.R_types HO382.out BK384.out (by decide)) (fun _ hk => hk.2) (.slice Ao33 t380.length co33)) (fun _ hk => hk.2) (.int .i64 t383)) (fun _ h_ => h_.1))))) (below_size bA)); have n4_ := Aside0.mk (blk_below (g:=gb367) (o:=.cells #[.slice A0_0 l0_0.length c0_0,.int .i64 a0_1] 24 (0,0)) (kF BK367.out) hb); have n5_ := Aside0.mk (blk_below (g:=gb379) (o:=.cells #[.slice Ao27 t373.length co27,.int .i64 t376] 28 (0,0)) (kF BK379.out) hb); have n6_ := Aside0.mk (blk_below (g:=gb384) (o:=.cells #[.slice Ao33 t380.length co33,.int .i64 t383] 28 (0,0)) (by (with_reducible repeat (first | refine blk_drewN ?_ _ | refine blk_drew ?_ | refine blk_alloc ?_ _)); refine blk_put (cs := #[.slice Ao33 t380.length co33,.int .i64 0]) ?_ 1 _ rfl; (with_reducible repeat (first | refine blk_drewN ?_ _ | refine blk_drew ?_ | refine blk_alloc ?_ _)); refine blk_put (cs := #[.slice none 0 0,.int .i64 0]) ?_ 0 _ rfl; (with_reducible repeat (first | refine blk_drewN ?_ _ | refine blk_drew ?_ | refine blk_alloc ?_ _)); exact BK384.out) hb); have n7_ := Aside0.mk (below_step bA hb); clear HO371; clear HO375; clear HO382; clear BK367; clear BK379; clear BK384; clear HB; have HO371 := n0_; have HO375 := n1_; have HO382 := n2_; have HO387 := n3_; have BK367 := n4_; have BK379 := n5_; have BK384 := n6_; have HB := n7_; clear n0_ n1_ n2_ n3_ n4_ n5_ n6_ n7_; (try clear hb); (try clear hb2); (try clear hk); (try clear hi); (try clear ho0)) | ((with_reducible refine gate_dst (N:=14) rfl ?_); refine box_event ?hg (N:=14) ?hd (cs := #[.slice none 0 0,.int .i64 0]) (t:=28) ?hr ?_; (case hd => rfl); (case hg => rfl); (case hr => first | (go_simp; done) | (go_simp; rfl)); intro gb391 hg w38 hbox hb; have n0_ := Aside0.mk (Kd.R_below (rA HO371.out) hb); have n1_ := Aside0.mk (Kd.R_below (rA HO375.out) hb); have n2_ := Aside0.mk (Kd.R_below (rA HO382.out) hb); have n3_ := Aside0.mk (Kd.R_below (rA HO387.out) hb); have n4_ := Aside0.mk (blk_below (g:=gb367) (o:=.cells #[.slice A0_0 l0_0.length c0_0,.int .i64 a0_1] 24 (0,0)) (kA BK367.out) hb); have n5_ := Aside0.mk (blk_below (g:=gb379) (o:=.cells #[.slice Ao27 t373.length co27,.int .i64 t376] 28 (0,0)) (kA BK379.out) hb); have n6_ := Aside0.mk (blk_below (g:=gb384) (o:=.cells #[.slice Ao33 t380.length co33,.int .i64 t383] 28 (0,0)) (kA BK384.out) hb); have n7_ := Aside0.mk (below_step bA hb); have n8_ := Aside0.mk (hbox); have n9_ := Aside0.mk ((by rw [hg]; exact (below_size bA) : w.heap.size ≤ gb391)); have n10_ := Aside0.mk ((by rw [hg]; exact (below_size bA) : w.heap.size ≤ gb391)); have n11_ := Aside0.mk ((by rw [hg]; exact Nat.ne_of_lt (blk_lt (g:=gb367) (o:=.cells #[.slice A0_0 l0_0.length c0_0,.int .i64 a0_1] 24 (0,0)) (kA BK367.out)) : gb367 ≠ gb391)); have n12_ := Aside0.mk ((by rw [hg]; exact Nat.ne_of_gt (blk_lt (g:=gb367) (o:=.cells #[.slice A0_0 l0_0.length c0_0,.int .i64 a0_1] 24 (0,0)) (kA BK367.out)) : gb391 ≠ gb367)); have n13_ := Aside0.mk ((by rw [hg]; exact Nat.ne_of_lt (blk_lt (g:=gb379) (o:=.cells #[.slice Ao27 t373.length co27,.int .i64 t376] 28 (0,0)) (kA BK379.out)) : gb379 ≠ gb391)); have n14_ := Aside0.mk ((by rw [hg]; exact Nat.ne_of_gt (blk_lt (g:=gb379) (o:=.cells #[.slice Ao27 t373.length co27,.int .i64 t376] 28 (0,0)) (kA BK379.out)) : gb391 ≠ gb379)); have n15_ := Aside0.mk ((by rw [hg]; exact Nat.ne_of_lt (blk_lt (g:=gb384) (o:=.cells #[.slice Ao33 t380.length co33,.int .i64 t383] 28 (0,0)) (kA BK384.out)) : gb384 ≠ gb391)); have n16_ := Aside0.mk ((by rw [hg]; exact Nat.ne_of_gt (blk_lt (g:=gb384) (o:=.cells #[.slice Ao33 t380.length co33,.int .i64 t383] 28 (0,0)) (kA BK384.out)) : gb391 ≠ gb384)); clear HO371; clear HO375; clear HO382; clear HO387; clear BK367; clear BK379; clear BK384; clear HB; have HO371 := n0_; have HO375 := n1_; have HO382 := n2_; have HO387 := n3_; have BK367 := n4_; have BK379 := n5_; have BK384 := n6_; have HB := n7_; have BK391 := n8_; have GW391 := n9_; have GE391 := n10_; have NB367_391 := n11_; have NB391_367 := n12_; have NB379_391 := n13_; have NB391_379 := n14_; have NB384_391 := n15_; have NB391_384 := n16_; clear n0_ n1_ n2_ n3_ n4_ n5_ n6_ n7_ n8_ n9_ n10_ n11_ n12_ n13_ n14_ n15_ n16_; clear hb hbox hg; obtain ⟨Ao39,co39,eo39⟩ := Kd.R_slice HO387.out; subst eo39; have hnb40 := NB391_367.out; have hnc40 := NB367_391.out; have hnb41 := NB391_379.out; have hnc41 := NB379_391.out; have hnb42 := NB391_384.out; have hnc42 := NB384_391.out; have hcz43_0 : w38.cell? ⟨gb391,0,none⟩ = some (.slice none 0 0) := (blk_cell BK391.out 0).trans rfl; have hcz43_1 : w38.cell? ⟨gb391,1,none⟩ = some (.int .i64 0) := (blk_cell BK391.out 1).trans rfl; have hfz43_0 := blk_frozen BK391.out 0; have hfz43_1 := blk_frozen BK391.out 1))
    (try simp only [Act.put,setIfInBounds_toArray,set_cons_zero,set_cons_succ])
    go_cut [68] (fun v68 wc => ∃ (kq : Nat) (x68_17 : Bool),v68 = .bool x68_17 ∧ Aside0 (laws_FnExactPutVersion.j0 kq a1 a2 a3 t377 t378 t389 t390 x68_17 l0_0 a0_1 t373 t376 t380 t383 t385 t388 = some r) ∧ Aside0 (kq ≤ k) ∧ Aside0 (Kd.R k71 71 wc w.heap.size (fun k_ => some k_ ≠ ((.slice Ao33 t380.length co33) : Value).ownBlock ∧ some k_ ≠ ((.slice Ao39 t385.length co39) : Value).ownBlock) (.slice Ao27 t373.length co27) t373) ∧ Aside0 (Kd.R k71 71 wc w.heap.size (fun k_ => some k_ ≠ ((.slice Ao27 t373.length co27) : Value).ownBlock ∧ some k_ ≠ ((.slice Ao39 t385.length co39) : Value).ownBlock) (.slice Ao33 t380.length co33) t380) ∧ Aside0 (Kd.R k71 71 wc w.heap.size (fun k_ => some k_ ≠ ((.slice Ao27 t373.length co27) : Value).ownBlock ∧ some k_ ≠ ((.slice Ao33 t380.length co33) : Value).ownBlock) (.slice Ao39 t385.length co39) t385) ∧ Aside0 (wc.heap[gb367]? = some (.cells #[(.slice A0_0 l0_0.length c0_0),.int .i64 a0_1] 24 (0,0))) ∧ Aside0 (wc.heap[gb379]? = some (.cells #[(.slice Ao27 t373.length co27),.int .i64 t376] 28 (0,0))) ∧ Aside0 (wc.heap[gb384]? = some (.cells #[(.slice Ao33 t380.length co33),.int .i64 t383] 28 (0,0))) ∧ Aside0 (wc.heap[gb391]? = some (.cells #[(.slice Ao39 t385.length co39),.int .i64 t388] 28 (0,0))) ∧ Aside0 (Below w.heap.size w wc))
    case first =>
     have H := HC18.out
     clear HC18
     replace H := Option.bind_eq_some_iff.mp H
     obtain ⟨t392,A440,H⟩ := H
     try dsimp only at H
     have A44 := Aside0.mk A440
     clear A440
     by_cases c45 : t392 = true
     ·subst c45
      rw [if_pos rfl] at H
      by_cases c46 : t389 = t377
      ·rw [if_pos c46] at H
       have c46b0 : (t389 == t377) = true := beq_iff_eq.mpr c46
       have c46b1 : (t389 != t377) = false := bne_eq_false_iff_eq.mpr c46
       clear c46
       (first | rw [c46b0] | (simp only [i64_w,i32_w]; rw [c46b0]) | skip)
       have H' := Aside0.mk H
       clear H
       have hnb47 := NB391_367.out
       have hnc47 := NB367_391.out
       have hnb48 := NB391_379.out
       have hnc48 := NB379_391.out
       have hnb49 := NB391_384.out
       have hnc49 := NB384_391.out
       have hcz50_0 : w38.cell? ⟨gb391,0,none⟩ = some (.slice none 0 0) := (blk_cell BK391.out 0).trans rfl
       have hcz50_1 : w38.cell? ⟨gb391,1,none⟩ = some (.int .i64 0) := (blk_cell BK391.out 1).trans rfl
       have hfz50_0 := blk_frozen BK391.out 0
       have hfz50_1 := blk_frozen BK391.out 1
       have hnb51 := NB379_367.out
       have hnc51 := NB367_379.out
       have hnb52 := NB379_384.out
       have hnc52 := NB384_379.out
       have hcz53_0 : w38.cell? ⟨gb379,0,none⟩ = some (.slice Ao27 t373.length co27) := (blk_cell BK379.out 0).trans rfl
       have hcz53_1 : w38.cell? ⟨gb379,1,none⟩ = some (.int .i64 t376) := (blk_cell BK379.out 1).trans rfl
       have hfz53_0 := blk_frozen BK379.out 0
       have hfz53_1 := blk_frozen BK379.out 1
       go_wp2_with (first | ((with_reducible refine gate_callee (f:=11) rfl ?_); refine goesL_ (some 57) rfl rfl Try.func11 (by kernel_rfl) rfl #[.agg #[.slice Ao39 t385.length co39,.int .i64 t388],.agg #[.slice Ao27 t373.length co27,.int .i64 t376]] rfl mA ?_; (with_reducible refine (laws_eqStore.calls k _ _ t385 t388 _ _ t373 t376 true _ ?side1 ?side2 ?side3 ?side4 A44.out).mono ?_); (case side1 => refine (Kd.R_reads' (e:=71) (base := w.heap.size) (ok := fun k_ => (((True ∧ some k_ ≠ (.slice Ao24 t369.length co24 : Value).ownBlock) ∧ some k_ ≠ (.slice Ao27 t373.length co27 : Value).ownBlock) ∧ some k_ ≠ (.slice Ao33 t380.length co33 : Value).ownBlock)) (n:=t385.length) (c:=co39) ?_).2.2; exact (by (with_reducible repeat (first | apply Kd.R_alloc | apply Kd.R_drewN | apply Kd.R_drew)); exact (Kd.R_mono (Kd.R_far (p:=⟨gb391,1,none⟩) (Kd.R_far (p:=⟨gb391,0,none⟩) (Kd.R_types HO387.out BK391.out (by decide)) (fun _ hk => hk.2) (.slice Ao39 t385.length co39)) (fun _ hk => hk.2) (.int .i64 t388)) (fun _ h_ => h_.1)))); (case side2 => exact (Kd.R_reads' HO387.out).2.1); (case side3 => refine (Kd.R_reads' (e:=71) (base := w.heap.size) (ok := fun k_ => (((True ∧ some k_ ≠ (.slice Ao24 t369.length co24 : Value).ownBlock) ∧ some k_ ≠ (.slice Ao33 t380.length co33 : Value).ownBlock) ∧ some k_ ≠ (.slice Ao39 t385.length co39 : Value).ownBlock)) (n:=t373.length) (c:=co27) ?_).2.2; exact (by (with_reducible repeat (first | apply Kd.R_alloc | apply Kd.R_drewN | apply Kd.R_drew)); exact (Kd.R_mono (Kd.R_far (p:=⟨gb391,1,none⟩) (Kd.R_far (p:=⟨gb391,0,none⟩) (Kd.R_types HO375.out BK391.out (by decide)) (fun _ hk => hk.2) (.slice Ao39 t385.length co39)) (fun _ hk => hk.2) (.int .i64 t388)) (fun _ h_ => h_.1)))); (case side4 => exact (Kd.R_reads' HO375.out).2.1); rintro e w54 ⟨rfl,hb⟩; refine ⟨_,rfl,?_⟩; have n0_ := Aside0.mk (Kd.R_below (by (with_reducible repeat (first | apply Kd.R_alloc | apply Kd.R_drewN | apply Kd.R_drew)); exact (Kd.R_mono (Kd.R_far (p:=⟨gb391,1,none⟩) (Kd.R_far (p:=⟨gb391,0,none⟩) (Kd.R_types HO371.out BK391.out (by decide)) (fun _ hk => hk.2) (.slice Ao39 t385.length co39)) (fun _ hk => hk.2) (.int .i64 t388)) (fun _ h_ => h_.1))) hb); have n1_ := Aside0.mk (Kd.R_below (by (with_reducible repeat (first | apply Kd.R_alloc | apply Kd.R_drewN | apply Kd.R_drew)); exact (Kd.R_mono (Kd.R_far (p:=⟨gb391,1,none⟩) (Kd.R_far (p:=⟨gb391,0,none⟩) (Kd.R_types HO375.out BK391.out (by decide)) (fun _ hk => hk.2) (.slice Ao39 t385.length co39)) (fun _ hk => hk.2) (.int .i64 t388)) (fun _ h_ => h_.1))) hb); have n2_ := Aside0.mk (Kd.R_below (by (with_reducible repeat (first | apply Kd.R_alloc | apply Kd.R_drewN | apply Kd.R_drew)); exact (Kd.R_mono (Kd.R_far (p:=⟨gb391,1,none⟩) (Kd.R_far (p:=⟨gb391,0,none⟩) (Kd.R_types HO382.out BK391.out (by decide)) (fun _ hk => hk.2) (.slice Ao39 t385.length co39)) (fun _ hk => hk.2) (.int .i64 t388)) (fun _ h_ => h_.1))) hb); have n3_ := Aside0.mk (Kd.R_below (by (with_reducible repeat (first | apply Kd.R_alloc | apply Kd.R_drewN | apply Kd.R_drew)); exact (Kd.R_mono (Kd.R_far (p:=⟨gb391,1,none⟩) (Kd.R_far (p:=⟨gb391,0,none⟩) (Kd.R_types HO387.out BK391.out (by decide)) (fun _ hk => hk.2) (.slice Ao39 t385.length co39)) (fun _ hk => hk.2) (.int .i64 t388)) (fun _ h_ => h_.1))) hb); have n4_ := Aside0.mk (blk_below (g:=gb367) (o:=.cells #[.slice A0_0 l0_0.length c0_0,.int .i64 a0_1] 24 (0,0)) (kF BK367.out) hb); have n5_ := Aside0.mk (blk_below (g:=gb379) (o:=.cells #[.slice Ao27 t373.length co27,.int .i64 t376] 28 (0,0)) (kF BK379.out) hb); have n6_ := Aside0.mk (blk_below (g:=gb384) (o:=.cells #[.slice Ao33 t380.length co33,.int .i64 t383] 28 (0,0)) (kF BK384.out) hb); have n7_ := Aside0.mk (blk_below (g:=gb391) (o:=.cells #[.slice Ao39 t385.length co39,.int .i64 t388] 28 (0,0)) (by (with_reducible repeat (first | refine blk_drewN ?_ _ | refine blk_drew ?_ | refine blk_alloc ?_ _)); refine blk_put (cs := #[.slice Ao39 t385.length co39,.int .i64 0]) ?_ 1 _ rfl; (with_reducible repeat (first | refine blk_drewN ?_ _ | refine blk_drew ?_ | refine blk_alloc ?_ _)); refine blk_put (cs := #[.slice none 0 0,.int .i64 0]) ?_ 0 _ rfl; (with_reducible repeat (first | refine blk_drewN ?_ _ | refine blk_drew ?_ | refine blk_alloc ?_ _)); exact BK391.out) hb); have n8_ := Aside0.mk (below_step bA hb); clear HO371; clear HO375; clear HO382; clear HO387; clear BK367; clear BK379; clear BK384; clear BK391; clear HB; have HO371 := n0_; have HO375 := n1_; have HO382 := n2_; have HO387 := n3_; have BK367 := n4_; have BK379 := n5_; have BK384 := n6_; have BK391 := n7_; have HB := n8_; clear n0_ n1_ n2_ n3_ n4_ n5_ n6_ n7_ n8_; (try clear hb); (try clear hb2); (try clear hk); (try clear hi)))
       go_meet
       case rel => exact ⟨_,((t390 != t378)),(by first | rfl | (simp; done) | (simp [*]; done)),H',⟨by first | omega | exact Nat.le_refl _⟩,⟨by (with_reducible repeat (first | apply Kd.R_alloc | apply Kd.R_drewN | apply Kd.R_drew)); exact Kd.R_mono HO375.out (fun _ hk => ⟨hk.1.2,hk.2⟩)⟩,⟨by (with_reducible repeat (first | apply Kd.R_alloc | apply Kd.R_drewN | apply Kd.R_drew)); exact Kd.R_mono HO382.out (fun _ hk => ⟨hk.1.2,hk.2⟩)⟩,⟨by (with_reducible repeat (first | apply Kd.R_alloc | apply Kd.R_drewN | apply Kd.R_drew)); exact Kd.R_mono HO387.out (fun _ hk => ⟨hk.1.2,hk.2⟩)⟩,⟨kA BK367.out⟩,⟨kA BK379.out⟩,⟨kA BK384.out⟩,⟨kA BK391.out⟩,⟨bA⟩⟩
      ·rw [if_neg c46] at H
       have c46b0 : (t389 == t377) = false := beq_eq_false_iff_ne.mpr c46
       have c46b1 : (t389 != t377) = true := bne_iff_ne.mpr c46
       (first | rw [c46b0] | (simp only [i64_w,i32_w]; rw [c46b0]) | skip)
       have H' := Aside0.mk H
       clear H
       have hnb55 := NB391_367.out
       have hnc55 := NB367_391.out
       have hnb56 := NB391_379.out
       have hnc56 := NB379_391.out
       have hnb57 := NB391_384.out
       have hnc57 := NB384_391.out
       have hcz58_0 : w38.cell? ⟨gb391,0,none⟩ = some (.slice none 0 0) := (blk_cell BK391.out 0).trans rfl
       have hcz58_1 : w38.cell? ⟨gb391,1,none⟩ = some (.int .i64 0) := (blk_cell BK391.out 1).trans rfl
       have hfz58_0 := blk_frozen BK391.out 0
       have hfz58_1 := blk_frozen BK391.out 1
       have hnb59 := NB379_367.out
       have hnc59 := NB367_379.out
       have hnb60 := NB379_384.out
       have hnc60 := NB384_379.out
       have hcz61_0 : w38.cell? ⟨gb379,0,none⟩ = some (.slice Ao27 t373.length co27) := (blk_cell BK379.out 0).trans rfl
       have hcz61_1 : w38.cell? ⟨gb379,1,none⟩ = some (.int .i64 t376) := (blk_cell BK379.out 1).trans rfl
       have hfz61_0 := blk_frozen BK379.out 0
       have hfz61_1 := blk_frozen BK379.out 1
       go_wp2_with (first | ((with_reducible refine gate_callee (f:=11) rfl ?_); refine goesL_ (some 57) rfl rfl Try.func11 (by kernel_rfl) rfl #[.agg #[.slice Ao39 t385.length co39,.int .i64 t388],.agg #[.slice Ao27 t373.length co27,.int .i64 t376]] rfl mA ?_; (with_reducible refine (laws_eqStore.calls k _ _ t385 t388 _ _ t373 t376 true _ ?side1 ?side2 ?side3 ?side4 A44.out).mono ?_); (case side1 => refine (Kd.R_reads' (e:=71) (base := w.heap.size) (ok := fun k_ => (((True ∧ some k_ ≠ (.slice Ao24 t369.length co24 : Value).ownBlock) ∧ some k_ ≠ (.slice Ao27 t373.length co27 : Value).ownBlock) ∧ some k_ ≠ (.slice Ao33 t380.length co33 : Value).ownBlock)) (n:=t385.length) (c:=co39) ?_).2.2; exact (by (with_reducible repeat (first | apply Kd.R_alloc | apply Kd.R_drewN | apply Kd.R_drew)); exact (Kd.R_mono (Kd.R_far (p:=⟨gb391,1,none⟩) (Kd.R_far (p:=⟨gb391,0,none⟩) (Kd.R_types HO387.out BK391.out (by decide)) (fun _ hk => hk.2) (.slice Ao39 t385.length co39)) (fun _ hk => hk.2) (.int .i64 t388)) (fun _ h_ => h_.1)))); (case side2 => exact (Kd.R_reads' HO387.out).2.1); (case side3 => refine (Kd.R_reads' (e:=71) (base := w.heap.size) (ok := fun k_ => (((True ∧ some k_ ≠ (.slice Ao24 t369.length co24 : Value).ownBlock) ∧ some k_ ≠ (.slice Ao33 t380.length co33 : Value).ownBlock) ∧ some k_ ≠ (.slice Ao39 t385.length co39 : Value).ownBlock)) (n:=t373.length) (c:=co27) ?_).2.2; exact (by (with_reducible repeat (first | apply Kd.R_alloc | apply Kd.R_drewN | apply Kd.R_drew)); exact (Kd.R_mono (Kd.R_far (p:=⟨gb391,1,none⟩) (Kd.R_far (p:=⟨gb391,0,none⟩) (Kd.R_types HO375.out BK391.out (by decide)) (fun _ hk => hk.2) (.slice Ao39 t385.length co39)) (fun _ hk => hk.2) (.int .i64 t388)) (fun _ h_ => h_.1)))); (case side4 => exact (Kd.R_reads' HO375.out).2.1); rintro e w62 ⟨rfl,hb⟩; refine ⟨_,rfl,?_⟩; have n0_ := Aside0.mk (Kd.R_below (by (with_reducible repeat (first | apply Kd.R_alloc | apply Kd.R_drewN | apply Kd.R_drew)); exact (Kd.R_mono (Kd.R_far (p:=⟨gb391,1,none⟩) (Kd.R_far (p:=⟨gb391,0,none⟩) (Kd.R_types HO371.out BK391.out (by decide)) (fun _ hk => hk.2) (.slice Ao39 t385.length co39)) (fun _ hk => hk.2) (.int .i64 t388)) (fun _ h_ => h_.1))) hb); have n1_ := Aside0.mk (Kd.R_below (by (with_reducible repeat (first | apply Kd.R_alloc | apply Kd.R_drewN | apply Kd.R_drew)); exact (Kd.R_mono (Kd.R_far (p:=⟨gb391,1,none⟩) (Kd.R_far (p:=⟨gb391,0,none⟩) (Kd.R_types HO375.out BK391.out (by decide)) (fun _ hk => hk.2) (.slice Ao39 t385.length co39)) (fun _ hk => hk.2) (.int .i64 t388)) (fun _ h_ => h_.1))) hb); have n2_ := Aside0.mk (Kd.R_below (by (with_reducible repeat (first | apply Kd.R_alloc | apply Kd.R_drewN | apply Kd.R_drew)); exact (Kd.R_mono (Kd.R_far (p:=⟨gb391,1,none⟩) (Kd.R_far (p:=⟨gb391,0,none⟩) (Kd.R_types HO382.out BK391.out (by decide)) (fun _ hk => hk.2) (.slice Ao39 t385.length co39)) (fun _ hk => hk.2) (.int .i64 t388)) (fun _ h_ => h_.1))) hb); have n3_ := Aside0.mk (Kd.R_below (by (with_reducible repeat (first | apply Kd.R_alloc | apply Kd.R_drewN | apply Kd.R_drew)); exact (Kd.R_mono (Kd.R_far (p:=⟨gb391,1,none⟩) (Kd.R_far (p:=⟨gb391,0,none⟩) (Kd.R_types HO387.out BK391.out (by decide)) (fun _ hk => hk.2) (.slice Ao39 t385.length co39)) (fun _ hk => hk.2) (.int .i64 t388)) (fun _ h_ => h_.1))) hb); have n4_ := Aside0.mk (blk_below (g:=gb367) (o:=.cells #[.slice A0_0 l0_0.length c0_0,.int .i64 a0_1] 24 (0,0)) (kF BK367.out) hb); have n5_ := Aside0.mk (blk_below (g:=gb379) (o:=.cells #[.slice Ao27 t373.length co27,.int .i64 t376] 28 (0,0)) (kF BK379.out) hb); have n6_ := Aside0.mk (blk_below (g:=gb384) (o:=.cells #[.slice Ao33 t380.length co33,.int .i64 t383] 28 (0,0)) (kF BK384.out) hb); have n7_ := Aside0.mk (blk_below (g:=gb391) (o:=.cells #[.slice Ao39 t385.length co39,.int .i64 t388] 28 (0,0)) (by (with_reducible repeat (first | refine blk_drewN ?_ _ | refine blk_drew ?_ | refine blk_alloc ?_ _)); refine blk_put (cs := #[.slice Ao39 t385.length co39,.int .i64 0]) ?_ 1 _ rfl; (with_reducible repeat (first | refine blk_drewN ?_ _ | refine blk_drew ?_ | refine blk_alloc ?_ _)); refine blk_put (cs := #[.slice none 0 0,.int .i64 0]) ?_ 0 _ rfl; (with_reducible repeat (first | refine blk_drewN ?_ _ | refine blk_drew ?_ | refine blk_alloc ?_ _)); exact BK391.out) hb); have n8_ := Aside0.mk (below_step bA hb); clear HO371; clear HO375; clear HO382; clear HO387; clear BK367; clear BK379; clear BK384; clear BK391; clear HB; have HO371 := n0_; have HO375 := n1_; have HO382 := n2_; have HO387 := n3_; have BK367 := n4_; have BK379 := n5_; have BK384 := n6_; have BK391 := n7_; have HB := n8_; clear n0_ n1_ n2_ n3_ n4_ n5_ n6_ n7_ n8_; (try clear hb); (try clear hb2); (try clear hk); (try clear hi)))
       go_meet
       case rel => exact ⟨_,(true),(by first | rfl | (simp; done) | (simp [*]; done)),H',⟨by first | omega | exact Nat.le_refl _⟩,⟨by (with_reducible repeat (first | apply Kd.R_alloc | apply Kd.R_drewN | apply Kd.R_drew)); exact Kd.R_mono HO375.out (fun _ hk => ⟨hk.1.2,hk.2⟩)⟩,⟨by (with_reducible repeat (first | apply Kd.R_alloc | apply Kd.R_drewN | apply Kd.R_drew)); exact Kd.R_mono HO382.out (fun _ hk => ⟨hk.1.2,hk.2⟩)⟩,⟨by (with_reducible repeat (first | apply Kd.R_alloc | apply Kd.R_drewN | apply Kd.R_drew)); exact Kd.R_mono HO387.out (fun _ hk => ⟨hk.1.2,hk.2⟩)⟩,⟨kA BK367.out⟩,⟨kA BK379.out⟩,⟨kA BK384.out⟩,⟨kA BK391.out⟩,⟨bA⟩⟩
     ·replace c45 := Bool.eq_false_iff.mpr c45
      subst c45
      rw [if_neg (show ¬ (false = true) by decide)] at H
      have H' := Aside0.mk H
      clear H
      have hnb63 := NB391_367.out
      have hnc63 := NB367_391.out
      have hnb64 := NB391_379.out
      have hnc64 := NB379_391.out
      have hnb65 := NB391_384.out
      have hnc65 := NB384_391.out
      have hcz66_0 : w38.cell? ⟨gb391,0,none⟩ = some (.slice none 0 0) := (blk_cell BK391.out 0).trans rfl
      have hcz66_1 : w38.cell? ⟨gb391,1,none⟩ = some (.int .i64 0) := (blk_cell BK391.out 1).trans rfl
      have hfz66_0 := blk_frozen BK391.out 0
      have hfz66_1 := blk_frozen BK391.out 1
      have hnb67 := NB379_367.out
      have hnc67 := NB367_379.out
      have hnb68 := NB379_384.out
      have hnc68 := NB384_379.out
      have hcz69_0 : w38.cell? ⟨gb379,0,none⟩ = some (.slice Ao27 t373.length co27) := (blk_cell BK379.out 0).trans rfl
      have hcz69_1 : w38.cell? ⟨gb379,1,none⟩ = some (.int .i64 t376) := (blk_cell BK379.out 1).trans rfl
      have hfz69_0 := blk_frozen BK379.out 0
      have hfz69_1 := blk_frozen BK379.out 1
      go_wp2_with (first | ((with_reducible refine gate_callee (f:=11) rfl ?_); refine goesL_ (some 57) rfl rfl Try.func11 (by kernel_rfl) rfl #[.agg #[.slice Ao39 t385.length co39,.int .i64 t388],.agg #[.slice Ao27 t373.length co27,.int .i64 t376]] rfl mA ?_; (with_reducible refine (laws_eqStore.calls k _ _ t385 t388 _ _ t373 t376 false _ ?side1 ?side2 ?side3 ?side4 A44.out).mono ?_); (case side1 => refine (Kd.R_reads' (e:=71) (base := w.heap.size) (ok := fun k_ => (((True ∧ some k_ ≠ (.slice Ao24 t369.length co24 : Value).ownBlock) ∧ some k_ ≠ (.slice Ao27 t373.length co27 : Value).ownBlock) ∧ some k_ ≠ (.slice Ao33 t380.length co33 : Value).ownBlock)) (n:=t385.length) (c:=co39) ?_).2.2; exact (by (with_reducible repeat (first | apply Kd.R_alloc | apply Kd.R_drewN | apply Kd.R_drew)); exact (Kd.R_mono (Kd.R_far (p:=⟨gb391,1,none⟩) (Kd.R_far (p:=⟨gb391,0,none⟩) (Kd.R_types HO387.out BK391.out (by decide)) (fun _ hk => hk.2) (.slice Ao39 t385.length co39)) (fun _ hk => hk.2) (.int .i64 t388)) (fun _ h_ => h_.1)))); (case side2 => exact (Kd.R_reads' HO387.out).2.1); (case side3 => refine (Kd.R_reads' (e:=71) (base := w.heap.size) (ok := fun k_ => (((True ∧ some k_ ≠ (.slice Ao24 t369.length co24 : Value).ownBlock) ∧ some k_ ≠ (.slice Ao33 t380.length co33 : Value).ownBlock) ∧ some k_ ≠ (.slice Ao39 t385.length co39 : Value).ownBlock)) (n:=t373.length) (c:=co27) ?_).2.2; exact (by (with_reducible repeat (first | apply Kd.R_alloc | apply Kd.R_drewN | apply Kd.R_drew)); exact (Kd.R_mono (Kd.R_far (p:=⟨gb391,1,none⟩) (Kd.R_far (p:=⟨gb391,0,none⟩) (Kd.R_types HO375.out BK391.out (by decide)) (fun _ hk => hk.2) (.slice Ao39 t385.length co39)) (fun _ hk => hk.2) (.int .i64 t388)) (fun _ h_ => h_.1)))); (case side4 => exact (Kd.R_reads' HO375.out).2.1); rintro e w70 ⟨rfl,hb⟩; refine ⟨_,rfl,?_⟩; have n0_ := Aside0.mk (Kd.R_below (by (with_reducible repeat (first | apply Kd.R_alloc | apply Kd.R_drewN | apply Kd.R_drew)); exact (Kd.R_mono (Kd.R_far (p:=⟨gb391,1,none⟩) (Kd.R_far (p:=⟨gb391,0,none⟩) (Kd.R_types HO371.out BK391.out (by decide)) (fun _ hk => hk.2) (.slice Ao39 t385.length co39)) (fun _ hk => hk.2) (.int .i64 t388)) (fun _ h_ => h_.1))) hb); have n1_ := Aside0.mk (Kd.R_below (by (with_reducible repeat (first | apply Kd.R_alloc | apply Kd.R_drewN | apply Kd.R_drew)); exact (Kd.R_mono (Kd.R_far (p:=⟨gb391,1,none⟩) (Kd.R_far (p:=⟨gb391,0,none⟩) (Kd.R_types HO375.out BK391.out (by decide)) (fun _ hk => hk.2) (.slice Ao39 t385.length co39)) (fun _ hk => hk.2) (.int .i64 t388)) (fun _ h_ => h_.1))) hb); have n2_ := Aside0.mk (Kd.R_below (by (with_reducible repeat (first | apply Kd.R_alloc | apply Kd.R_drewN | apply Kd.R_drew)); exact (Kd.R_mono (Kd.R_far (p:=⟨gb391,1,none⟩) (Kd.R_far (p:=⟨gb391,0,none⟩) (Kd.R_types HO382.out BK391.out (by decide)) (fun _ hk => hk.2) (.slice Ao39 t385.length co39)) (fun _ hk => hk.2) (.int .i64 t388)) (fun _ h_ => h_.1))) hb); have n3_ := Aside0.mk (Kd.R_below (by (with_reducible repeat (first | apply Kd.R_alloc | apply Kd.R_drewN | apply Kd.R_drew)); exact (Kd.R_mono (Kd.R_far (p:=⟨gb391,1,none⟩) (Kd.R_far (p:=⟨gb391,0,none⟩) (Kd.R_types HO387.out BK391.out (by decide)) (fun _ hk => hk.2) (.slice Ao39 t385.length co39)) (fun _ hk => hk.2) (.int .i64 t388)) (fun _ h_ => h_.1))) hb); have n4_ := Aside0.mk (blk_below (g:=gb367) (o:=.cells #[.slice A0_0 l0_0.length c0_0,.int .i64 a0_1] 24 (0,0)) (kF BK367.out) hb); have n5_ := Aside0.mk (blk_below (g:=gb379) (o:=.cells #[.slice Ao27 t373.length co27,.int .i64 t376] 28 (0,0)) (kF BK379.out) hb); have n6_ := Aside0.mk (blk_below (g:=gb384) (o:=.cells #[.slice Ao33 t380.length co33,.int .i64 t383] 28 (0,0)) (kF BK384.out) hb); have n7_ := Aside0.mk (blk_below (g:=gb391) (o:=.cells #[.slice Ao39 t385.length co39,.int .i64 t388] 28 (0,0)) (by (with_reducible repeat (first | refine blk_drewN ?_ _ | refine blk_drew ?_ | refine blk_alloc ?_ _)); refine blk_put (cs := #[.slice Ao39 t385.length co39,.int .i64 0]) ?_ 1 _ rfl; (with_reducible repeat (first | refine blk_drewN ?_ _ | refine blk_drew ?_ | refine blk_alloc ?_ _)); refine blk_put (cs := #[.slice none 0 0,.int .i64 0]) ?_ 0 _ rfl; (with_reducible repeat (first | refine blk_drewN ?_ _ | refine blk_drew ?_ | refine blk_alloc ?_ _)); exact BK391.out) hb); have n8_ := Aside0.mk (below_step bA hb); clear HO371; clear HO375; clear HO382; clear HO387; clear BK367; clear BK379; clear BK384; clear BK391; clear HB; have HO371 := n0_; have HO375 := n1_; have HO382 := n2_; have HO387 := n3_; have BK367 := n4_; have BK379 := n5_; have BK384 := n6_; have BK391 := n7_; have HB := n8_; clear n0_ n1_ n2_ n3_ n4_ n5_ n6_ n7_ n8_; (try clear hb); (try clear hb2); (try clear hk); (try clear hi)))
      go_meet
      case rel => exact ⟨_,(true),(by first | rfl | (simp; done) | (simp [*]; done)),H',⟨by first | omega | exact Nat.le_refl _⟩,⟨by (with_reducible repeat (first | apply Kd.R_alloc | apply Kd.R_drewN | apply Kd.R_drew)); exact Kd.R_mono HO375.out (fun _ hk => ⟨hk.1.2,hk.2⟩)⟩,⟨by (with_reducible repeat (first | apply Kd.R_alloc | apply Kd.R_drewN | apply Kd.R_drew)); exact Kd.R_mono HO382.out (fun _ hk => ⟨hk.1.2,hk.2⟩)⟩,⟨by (with_reducible repeat (first | apply Kd.R_alloc | apply Kd.R_drewN | apply Kd.R_drew)); exact Kd.R_mono HO387.out (fun _ hk => ⟨hk.1.2,hk.2⟩)⟩,⟨kA BK367.out⟩,⟨kA BK379.out⟩,⟨kA BK384.out⟩,⟨kA BK391.out⟩,⟨bA⟩⟩
    case rest =>
     clear HC18
     try clear c1
     try clear c2
     try clear p2
     try clear c3
     try clear c4
     try clear c5
     try clear c5b0
     try clear c5b1
     try clear c6
     try clear c7
     try clear c7b0
     try clear c7b1
     try clear c9
     try clear c10
     try clear c10b0
     try clear c11
     try clear c21
     try clear c22
     try clear c28
     try clear c34
     try clear c35
     try clear c40
     try clear c41
     try clear c42
     try clear c45
     try clear c46
     try clear c46b0
     try clear c46b1
     try clear c47
     try clear c48
     try clear c49
     try clear c51
     try clear c52
     try clear c55
     try clear c56
     try clear c57
     try clear c59
     try clear c60
     try clear c63
     try clear c64
     try clear c65
     try clear c67
     try clear c68
     try clear hcz12_0
     try clear hcz12_1
     try clear hcz20_0
     try clear hcz20_1
     try clear hcz22_0
     try clear hcz22_1
     try clear hcz29_0
     try clear hcz29_1
     try clear hcz30_0
     try clear hcz30_1
     try clear hcz36_0
     try clear hcz36_1
     try clear hcz43_0
     try clear hcz43_1
     try clear hcz50_0
     try clear hcz50_1
     try clear hcz53_0
     try clear hcz53_1
     try clear hcz58_0
     try clear hcz58_1
     try clear hcz61_0
     try clear hcz61_1
     try clear hcz66_0
     try clear hcz66_1
     try clear hcz69_0
     try clear hcz69_1
     try clear hfz12_0
     try clear hfz12_1
     try clear hfz20_0
     try clear hfz20_1
     try clear hfz22_0
     try clear hfz22_1
     try clear hfz29_0
     try clear hfz29_1
     try clear hfz30_0
     try clear hfz30_1
     try clear hfz36_0
     try clear hfz36_1
     try clear hfz43_0
     try clear hfz43_1
     try clear hfz50_0
     try clear hfz50_1
     try clear hfz53_0
     try clear hfz53_1
     try clear hfz58_0
     try clear hfz58_1
     try clear hfz61_0
     try clear hfz61_1
     try clear hfz66_0
     try clear hfz66_1
     try clear hfz69_0
     try clear hfz69_1
     obtain ⟨kq,x68_17,rfl,HA,HJ17,HO_380000,HO_385000,HO_392000,BK367,BK379,BK384,BK391,HB⟩ := hcut
     cases kq with
     | zero => exact absurd HA.out (by simp [laws_FnExactPutVersion.j0])
     | succ kj17 =>
      have H := HA.out
      clear HA
      simp only [laws_FnExactPutVersion.j0] at H
      by_cases c71 : x68_17 = true
      ·subst c71
       rw [if_pos rfl] at H
       exact absurd H (by simp)
      ·replace c71 := Bool.eq_false_iff.mpr c71
       subst c71
       rw [if_neg (show ¬ (false = true) by decide)] at H
       replace H := Option.bind_eq_some_iff.mp H
       obtain ⟨⟨t393,t396⟩,A720,H⟩ := H
       try dsimp only at H
       have A72 := Aside0.mk A720
       clear A720
       replace H := Option.bind_eq_some_iff.mp H
       obtain ⟨t397,A730,H⟩ := H
       try dsimp only at H
       have A73 := Aside0.mk A730
       clear A730
       by_cases c74 : t397 = true
       ·subst c74
        rw [if_pos rfl] at H
        replace H := Option.bind_eq_some_iff.mp H
        obtain ⟨⟨t398,t399⟩,A750,H⟩ := H
        try dsimp only at H
        have A75 := Aside0.mk A750
        clear A750
        have HC76 := Aside0.mk H
        clear H
        try go_wp2
        have n0_ := Aside0.mk (Kd.R_drew HO_380000.out)
        have n1_ := Aside0.mk (Kd.R_drew HO_385000.out)
        have n2_ := Aside0.mk (Kd.R_drew HO_392000.out)
        have n3_ := Aside0.mk (blk_drew BK367.out)
        have n4_ := Aside0.mk (blk_drew BK379.out)
        have n5_ := Aside0.mk (blk_drew BK384.out)
        have n6_ := Aside0.mk (blk_drew BK391.out)
        have n7_ := Aside0.mk (below_drew1 HB.out)
        clear HO_380000
        clear HO_385000
        clear HO_392000
        clear BK367
        clear BK379
        clear BK384
        clear BK391
        clear HB
        have HO_380000 := n0_
        have HO_385000 := n1_
        have HO_392000 := n2_
        have BK367 := n3_
        have BK379 := n4_
        have BK384 := n5_
        have BK391 := n6_
        have HB := n7_
        clear n0_ n1_ n2_ n3_ n4_ n5_ n6_ n7_
        refine start_ (n:=5) (S:=fun w' => w'.cell? ⟨gb384,0,none⟩ = some (.slice Ao33 t380.length co33) ∧ w'.cell? ⟨gb384,1,none⟩ = some (.int .i64 t383) ∧ w'.cell? ⟨gb367,0,none⟩ = some (.slice A0_0 l0_0.length c0_0) ∧ w'.cell? ⟨gb367,1,none⟩ = some (.int .i64 a0_1)) (ds := []) (bm 5 0) (by kernel_rfl) rfl rfl ⟨(blk_cell BK384.out 0).trans rfl,(blk_cell BK384.out 1).trans rfl,(blk_cell BK367.out 0).trans rfl,(blk_cell BK367.out 1).trans rfl⟩ (fun hHeld => ?_)
        generalize wc.drew = w77 at HO_380000 HO_385000 HO_392000 BK367 BK379 BK384 BK391 HB hHeld ⊢
        refine take_ (i:=0) (N:=some 69) (v:=?_) (a':=?_) (bm 5 1) rfl rfl (by kernel_rfl) (fun _ _ _ h => h) (Or.inl ⟨by rfl,?_⟩) hHeld ?_ ?_
        rotate_left
        ·rintro w' ⟨s0,s1,s2,s3⟩
         go_simp
         with_reducible rfl
        rotate_left
        ·simp only [Act.put,setIfInBounds_toArray,set_cons_zero,set_cons_succ,i64_w,i32_w]
         rfl
        refine take_ (i:=1) (N:=some 70) (v:=?_) (a':=?_) (bm 5 3) rfl rfl (by kernel_rfl) (fun _ _ _ h => h) (Or.inl ⟨by rfl,?_⟩) hHeld ?_ ?_
        rotate_left
        ·rintro w' ⟨s0,s1,s2,s3⟩
         go_simp
         with_reducible rfl
        rotate_left
        ·simp only [Act.put,setIfInBounds_toArray,set_cons_zero,set_cons_succ,i64_w,i32_w]
         rfl
        refine one_ (i:=2) (N:=some 71) (bm 5 7) rfl rfl (by kernel_rfl) (by decide) (fun K hK => ?_)
        refine goes_ Try.func9 (by kernel_rfl) rfl #[.agg #[.slice A0_0 l0_0.length c0_0,.int .i64 a0_1]] (by rfl) rfl rfl mA ?_
        with_reducible refine (laws_toStore.calls kj17 _ _ l0_0 a0_1 t393 t396 _ ?side1 ?side2 A72.out).mono ?_
        (case side1 => repeat (first | exact (Kd.C_below HR0_0.out HB.out) | (with_reducible refine Kd.C_alloc ?_ _) | (with_reducible refine Kd.C_drewN ?_ _) | (with_reducible refine Kd.C_drew ?_)))
        (case side2 => exact HC0_0.out)
        rintro e w78 ⟨v394,rfl,ho0,hb⟩
        refine ⟨_,rfl,?_⟩
        have n0_ := Aside0.mk (Kd.R_elder' (rA HO_380000.out) (Kd.R_base ho0) hb)
        have n1_ := Aside0.mk (Kd.R_elder' (rA HO_385000.out) (Kd.R_base ho0) hb)
        have n2_ := Aside0.mk (Kd.R_elder' (rA HO_392000.out) (Kd.R_base ho0) hb)
        have n3_ := Aside0.mk (Kd.R_lower (Kd.R_new' (Kd.R_new' (Kd.R_new' ho0 (Kd.R_lt (rA HO_380000.out))) (Kd.R_lt (rA HO_385000.out))) (Kd.R_lt (rA HO_392000.out))) (below_size bA))
        have n4_ := Aside0.mk (blk_below (g:=gb367) (o:=.cells #[.slice A0_0 l0_0.length c0_0,.int .i64 a0_1] 24 (0,0)) (kA BK367.out) hb)
        have n5_ := Aside0.mk (blk_below (g:=gb379) (o:=.cells #[.slice Ao27 t373.length co27,.int .i64 t376] 28 (0,0)) (kA BK379.out) hb)
        have n6_ := Aside0.mk (blk_below (g:=gb384) (o:=.cells #[.slice Ao33 t380.length co33,.int .i64 t383] 28 (0,0)) (kA BK384.out) hb)
        have n7_ := Aside0.mk (blk_below (g:=gb391) (o:=.cells #[.slice Ao39 t385.length co39,.int .i64 t388] 28 (0,0)) (kA BK391.out) hb)
        have n8_ := Aside0.mk (below_step bA hb)
        clear HO_380000
        clear HO_385000
        clear HO_392000
        clear BK367
        clear BK379
        clear BK384
        clear BK391
        clear HB
        have HO_380000 := n0_
        have HO_385000 := n1_
        have HO_392000 := n2_
        have HO395 := n3_
        have BK367 := n4_
        have BK379 := n5_
        have BK384 := n6_
        have BK391 := n7_
        have HB := n8_
        clear n0_ n1_ n2_ n3_ n4_ n5_ n6_ n7_ n8_
        (try clear hb)
        (try clear hb2)
        (try clear hk)
        (try clear hi)
        (try clear ho0)
        obtain ⟨Ao79,co79,eo79⟩ := Kd.R_slice HO395.out
        (first | subst eo79 | (injection eo79 with f1_ f2_ f3_; have f4_ := f1_.symm; have f5_ := f3_.symm; clear f1_ f2_ f3_; subst f4_; subst f5_))
        refine hK.out _ _ ⟨(blk_cell BK384.out 0).trans rfl,(blk_cell BK384.out 1).trans rfl,(blk_cell BK367.out 0).trans rfl,(blk_cell BK367.out 1).trans rfl⟩ (fun hHeld => ?_)
        clear hK K
        refine norm_ (a':=?_) ?_ ?_
        rotate_left
        ·show Act.put _ (some 71) _ = _
         simp only [Act.put,setIfInBounds_toArray,set_cons_zero,set_cons_succ,i64_w,i32_w]
         rfl
        refine one_ (i:=3) (N:=some 72) (bm 5 15) rfl rfl (by kernel_rfl) (by decide) (fun K hK => ?_)
        refine goes_ Try.func11 (by kernel_rfl) rfl #[.agg #[.slice Ao33 t380.length co33,.int .i64 t383],.agg #[.slice Ao79 t393.length co79,.int .i64 t396]] (by rfl) rfl rfl mA ?_
        with_reducible refine (laws_eqStore.calls kj17 _ _ t380 t383 _ _ t393 t396 true _ ?side1 ?side2 ?side3 ?side4 A73.out).mono ?_
        (case side1 => repeat (first | exact (Kd.R_reads' HO_385000.out).2.2 | (with_reducible refine Kd.C_alloc ?_ _) | (with_reducible refine Kd.C_drewN ?_ _) | (with_reducible refine Kd.C_drew ?_)))
        (case side2 => exact (Kd.R_reads' HO_385000.out).2.1)
        (case side3 => repeat (first | exact (Kd.R_reads' HO395.out).2.2 | (with_reducible refine Kd.C_alloc ?_ _) | (with_reducible refine Kd.C_drewN ?_ _) | (with_reducible refine Kd.C_drew ?_)))
        (case side4 => exact (Kd.R_reads' HO395.out).2.1)
        rintro e w80 ⟨rfl,hb⟩
        refine ⟨_,rfl,?_⟩
        have n0_ := Aside0.mk (Kd.R_below (rA HO_380000.out) hb)
        have n1_ := Aside0.mk (Kd.R_below (rA HO_385000.out) hb)
        have n2_ := Aside0.mk (Kd.R_below (rA HO_392000.out) hb)
        have n3_ := Aside0.mk (Kd.R_below (rA HO395.out) hb)
        have n4_ := Aside0.mk (blk_below (g:=gb367) (o:=.cells #[.slice A0_0 l0_0.length c0_0,.int .i64 a0_1] 24 (0,0)) (kA BK367.out) hb)
        have n5_ := Aside0.mk (blk_below (g:=gb379) (o:=.cells #[.slice Ao27 t373.length co27,.int .i64 t376] 28 (0,0)) (kA BK379.out) hb)
        have n6_ := Aside0.mk (blk_below (g:=gb384) (o:=.cells #[.slice Ao33 t380.length co33,.int .i64 t383] 28 (0,0)) (kA BK384.out) hb)
        have n7_ := Aside0.mk (blk_below (g:=gb391) (o:=.cells #[.slice Ao39 t385.length co39,.int .i64 t388] 28 (0,0)) (kA BK391.out) hb)
        have n8_ := Aside0.mk (below_step bA hb)
        clear HO_380000
        clear HO_385000
        clear HO_392000
        clear HO395
        clear BK367
        clear BK379
        clear BK384
        clear BK391
        clear HB
        have HO_380000 := n0_
        have HO_385000 := n1_
        have HO_392000 := n2_
        have HO395 := n3_
        have BK367 := n4_
        have BK379 := n5_
        have BK384 := n6_
        have BK391 := n7_
        have HB := n8_
        clear n0_ n1_ n2_ n3_ n4_ n5_ n6_ n7_ n8_
        (try clear hb)
        (try clear hb2)
        (try clear hk)
        (try clear hi)
        refine hK.out _ _ ⟨(blk_cell BK384.out 0).trans rfl,(blk_cell BK384.out 1).trans rfl,(blk_cell BK367.out 0).trans rfl,(blk_cell BK367.out 1).trans rfl⟩ (fun hHeld => ?_)
        clear hK K
        refine norm_ (a':=?_) ?_ ?_
        rotate_left
        ·show Act.put _ (some 72) _ = _
         simp only [Act.put,setIfInBounds_toArray,set_cons_zero,set_cons_succ,i64_w,i32_w]
         rfl
        refine pure_ (i:=4) (N:=some 73) (v:=?_) (a':=?_) (bm 5 31) rfl rfl (by kernel_rfl) (fun _ _ _ h => h) (Or.inl ⟨by rfl,?_⟩) ?_ ?_
        rotate_left
        ·intro w'
         go_simp
         with_reducible rfl
        rotate_left
        ·simp only [Act.put,setIfInBounds_toArray,set_cons_zero,set_cons_succ,i64_w,i32_w]
         rfl
        refine done_ (by kernel_rfl) ?_
        have hnb81 := NB384_367.out
        have hnc81 := NB367_384.out
        have hnb82 := NB384_379.out
        have hnc82 := NB379_384.out
        have hnb83 := NB384_391.out
        have hnc83 := NB391_384.out
        have hcz84_0 : w80.cell? ⟨gb384,0,none⟩ = some (.slice Ao33 t380.length co33) := (blk_cell BK384.out 0).trans rfl
        have hcz84_1 : w80.cell? ⟨gb384,1,none⟩ = some (.int .i64 t383) := (blk_cell BK384.out 1).trans rfl
        have hfz84_0 := blk_frozen BK384.out 0
        have hfz84_1 := blk_frozen BK384.out 1
        go_upto_region 18 with (first | ((with_reducible refine gate_callee (f:=12) rfl ?_); refine goesL_ (some 76) rfl rfl Try.func12 (by kernel_rfl) rfl #[.agg #[.slice Ao33 t380.length co33,.int .i64 t383],.int .i64 1] rfl mA ?_; (with_reducible refine (laws_markStore.calls kj17 (fun k_ => some k_ = (.slice Ao33 t380.length co33 : Value).ownBlock) (.slice Ao33 t380.length co33) t380 t383 1 t398 t399 w _ ?side1 ?side2 A75.out).mono ?_); (case side1 => exact bA); (case side2 => exact Kd.R_tight rfl HO_385000.out); rintro e w85 ⟨rfl,hy0,hb,hkp⟩; refine ⟨_,rfl,?_⟩; have n0_ := Aside0.mk (Kd.R_mono (ok' := fun k_ => some k_ ≠ (.slice Ao33 t380.length co33 : Value).ownBlock ∧ some k_ ≠ (.slice Ao39 t385.length co39 : Value).ownBlock ∧ some k_ ≠ (.slice Ao79 t393.length co79 : Value).ownBlock) (Kd.R_keptB (HO_380000.out) hkp (fun k_ hk_ hs_ => (hk_.1.1) hs_)) (fun k_ hk_ => ⟨hk_.1.1.1,hk_.1.1.2,hk_.1.2⟩)); have n1_ := Aside0.mk (Kd.R_reok rfl hy0 (fun k_ e_ => HO_385000.out.1 k_ e_)); have n2_ := Aside0.mk (Kd.R_mono (ok' := fun k_ => some k_ ≠ (.slice Ao27 t373.length co27 : Value).ownBlock ∧ some k_ ≠ (.slice Ao33 t380.length co33 : Value).ownBlock ∧ some k_ ≠ (.slice Ao79 t393.length co79 : Value).ownBlock) (Kd.R_keptB (HO_392000.out) hkp (fun k_ hk_ hs_ => (hk_.1.2) hs_)) (fun k_ hk_ => ⟨hk_.1.1.1,hk_.1.1.2,hk_.1.2⟩)); have n3_ := Aside0.mk (blk_kept (kA BK367.out) hkp (fun hs_ => (fun e_ => (Kd.R_ne HO_385000.out BK367.out (by decide)) e_) hs_)); have n4_ := Aside0.mk (blk_kept (kA BK379.out) hkp (fun hs_ => (fun e_ => (Kd.R_ne HO_385000.out BK379.out (by decide)) e_) hs_)); have n5_ := Aside0.mk (blk_kept (kA BK384.out) hkp (fun hs_ => (fun e_ => (Kd.R_ne HO_385000.out BK384.out (by decide)) e_) hs_)); have n6_ := Aside0.mk (blk_kept (kA BK391.out) hkp (fun hs_ => (fun e_ => (Kd.R_ne HO_385000.out BK391.out (by decide)) e_) hs_)); have n7_ := Aside0.mk (Kd.R_mono (ok' := fun k_ => some k_ ≠ (.slice Ao27 t373.length co27 : Value).ownBlock ∧ some k_ ≠ (.slice Ao33 t380.length co33 : Value).ownBlock ∧ some k_ ≠ (.slice Ao39 t385.length co39 : Value).ownBlock) (Kd.R_keptB (HO395.out) hkp (fun k_ hk_ hs_ => (hk_.1.2) hs_)) (fun k_ hk_ => ⟨hk_.1.1.1.2,hk_.1.1.2,hk_.1.2⟩)); have n8_ := Aside0.mk (hb); clear HO_380000; clear HO_385000; clear HO_392000; clear BK367; clear BK379; clear BK384; clear BK391; clear HO395; clear HB; have HO_380000 := n0_; have HO_385000 := n1_; have HO_392000 := n2_; have BK367 := n3_; have BK379 := n4_; have BK384 := n5_; have BK391 := n6_; have HO395 := n7_; have HB := n8_; clear n0_ n1_ n2_ n3_ n4_ n5_ n6_ n7_ n8_; (try clear hb); (try clear hkp); (try clear hy0)))
        (try simp only [Act.put,setIfInBounds_toArray,set_cons_zero,set_cons_succ])
        go_cut [94] (fun v94 wc => ∃ (kq : Nat) (x94_75 : Bool),v94 = .bool x94_75 ∧ Aside0 (laws_FnExactPutVersion.j1 kq a1 a2 a3 t377 t378 x94_75 l0_0 a0_1 t373 t376 t385 t388 = some r) ∧ Aside0 (kq ≤ kj17) ∧ Aside0 (Kd.R k71 71 wc w.heap.size (fun k_ => some k_ ≠ ((.slice Ao33 t380.length co33) : Value).ownBlock ∧ some k_ ≠ ((.slice Ao39 t385.length co39) : Value).ownBlock) (.slice Ao27 t373.length co27) t373) ∧ Aside0 (Kd.R k71 71 wc w.heap.size (fun k_ => some k_ ≠ ((.slice Ao27 t373.length co27) : Value).ownBlock ∧ some k_ ≠ ((.slice Ao39 t385.length co39) : Value).ownBlock) (.slice Ao33 t380.length co33) t399) ∧ Aside0 (Kd.R k71 71 wc w.heap.size (fun k_ => some k_ ≠ ((.slice Ao27 t373.length co27) : Value).ownBlock ∧ some k_ ≠ ((.slice Ao33 t380.length co33) : Value).ownBlock) (.slice Ao39 t385.length co39) t385) ∧ Aside0 (wc.heap[gb367]? = some (.cells #[(.slice A0_0 l0_0.length c0_0),.int .i64 a0_1] 24 (0,0))) ∧ Aside0 (wc.heap[gb379]? = some (.cells #[(.slice Ao27 t373.length co27),.int .i64 t376] 28 (0,0))) ∧ Aside0 (wc.heap[gb384]? = some (.cells #[(.slice Ao33 t380.length co33),.int .i64 t383] 28 (0,0))) ∧ Aside0 (wc.heap[gb391]? = some (.cells #[(.slice Ao39 t385.length co39),.int .i64 t388] 28 (0,0))) ∧ Aside0 (Below w.heap.size w wc))
        case first =>
         have H := HC76.out
         clear HC76
         by_cases c86 : t398 < 0
         ·rw [if_pos c86] at H
          have c86b0 : decide (t398 < 0) = true := decide_eq_true c86
          clear c86
          (first | rw [c86b0] | (simp only [i64_w,i32_w]; rw [c86b0]) | skip)
          have H' := Aside0.mk H
          clear H
          go_wp2
          go_meet
          case rel => exact ⟨_,(true),(by first | rfl | (simp; done) | (simp [*]; done)),H',⟨by have := HJ17.out; first | omega | exact Nat.le_refl _⟩,⟨by (with_reducible repeat (first | apply Kd.R_alloc | apply Kd.R_drewN | apply Kd.R_drew)); exact Kd.R_mono HO_380000.out (fun _ hk => ⟨hk.1,hk.2.1⟩)⟩,⟨by (with_reducible repeat (first | apply Kd.R_alloc | apply Kd.R_drewN | apply Kd.R_drew)); exact Kd.R_mono HO_385000.out (fun _ hk => ⟨hk.1.1,hk.1.2⟩)⟩,⟨by (with_reducible repeat (first | apply Kd.R_alloc | apply Kd.R_drewN | apply Kd.R_drew)); exact Kd.R_mono HO_392000.out (fun _ hk => ⟨hk.1,hk.2.1⟩)⟩,⟨kA BK367.out⟩,⟨kA BK379.out⟩,⟨kA BK384.out⟩,⟨kA BK391.out⟩,⟨bA⟩⟩
         ·rw [if_neg c86] at H
          have c86b0 : decide (t398 < 0) = false := decide_eq_false c86
          clear c86
          (first | rw [c86b0] | (simp only [i64_w,i32_w]; rw [c86b0]) | skip)
          replace H := Option.bind_eq_some_iff.mp H
          obtain ⟨t400,A870,H⟩ := H
          try dsimp only at H
          have A87 := Aside0.mk A870
          clear A870
          by_cases c88 : t400 = true
          ·subst c88
           rw [if_pos rfl] at H
           by_cases c89 : t389 = t377
           ·rw [if_pos c89] at H
            have c89b0 : (t389 == t377) = true := beq_iff_eq.mpr c89
            have c89b1 : (t389 != t377) = false := bne_eq_false_iff_eq.mpr c89
            clear c89
            have H' := Aside0.mk H
            clear H
            have hnb90 := NB391_367.out
            have hnc90 := NB367_391.out
            have hnb91 := NB391_379.out
            have hnc91 := NB379_391.out
            have hnb92 := NB391_384.out
            have hnc92 := NB384_391.out
            have hcz93_0 : w85.cell? ⟨gb391,0,none⟩ = some (.slice Ao39 t385.length co39) := (blk_cell BK391.out 0).trans rfl
            have hcz93_1 : w85.cell? ⟨gb391,1,none⟩ = some (.int .i64 t388) := (blk_cell BK391.out 1).trans rfl
            have hfz93_0 := blk_frozen BK391.out 0
            have hfz93_1 := blk_frozen BK391.out 1
            have hnb94 := NB379_367.out
            have hnc94 := NB367_379.out
            have hnb95 := NB379_384.out
            have hnc95 := NB384_379.out
            have hcz96_0 : w85.cell? ⟨gb379,0,none⟩ = some (.slice Ao27 t373.length co27) := (blk_cell BK379.out 0).trans rfl
            have hcz96_1 : w85.cell? ⟨gb379,1,none⟩ = some (.int .i64 t376) := (blk_cell BK379.out 1).trans rfl
            have hfz96_0 := blk_frozen BK379.out 0
            have hfz96_1 := blk_frozen BK379.out 1
            go_wp2_with (first | (go_at_call 11; (with_reducible refine (laws_eqStore.calls kj17 _ _ t385 t388 _ _ t373 t376 true _ ?side1 ?side2 ?side3 ?side4 A87.out).mono ?_); (case side1 => repeat (first | exact (Kd.R_reads' HO_392000.out).2.2 | (with_reducible refine Kd.C_alloc ?_ _) | (with_reducible refine Kd.C_drewN ?_ _) | (with_reducible refine Kd.C_drew ?_))); (case side2 => exact (Kd.R_reads' HO_392000.out).2.1); (case side3 => repeat (first | exact (Kd.R_reads' HO_380000.out).2.2 | (with_reducible refine Kd.C_alloc ?_ _) | (with_reducible refine Kd.C_drewN ?_ _) | (with_reducible refine Kd.C_drew ?_))); (case side4 => exact (Kd.R_reads' HO_380000.out).2.1); rintro e w97 ⟨rfl,hb⟩; have n0_ := Aside0.mk (Kd.R_below (rA HO_380000.out) hb); have n1_ := Aside0.mk (Kd.R_below (rA HO_385000.out) hb); have n2_ := Aside0.mk (Kd.R_below (rA HO_392000.out) hb); have n3_ := Aside0.mk (Kd.R_below (rA HO395.out) hb); have n4_ := Aside0.mk (blk_below (g:=gb367) (o:=.cells #[.slice A0_0 l0_0.length c0_0,.int .i64 a0_1] 24 (0,0)) (kA BK367.out) hb); have n5_ := Aside0.mk (blk_below (g:=gb379) (o:=.cells #[.slice Ao27 t373.length co27,.int .i64 t376] 28 (0,0)) (kA BK379.out) hb); have n6_ := Aside0.mk (blk_below (g:=gb384) (o:=.cells #[.slice Ao33 t380.length co33,.int .i64 t383] 28 (0,0)) (kA BK384.out) hb); have n7_ := Aside0.mk (blk_below (g:=gb391) (o:=.cells #[.slice Ao39 t385.length co39,.int .i64 t388] 28 (0,0)) (kA BK391.out) hb); have n8_ := Aside0.mk (below_step bA hb); clear HO_380000; clear HO_385000; clear HO_392000; clear HO395; clear BK367; clear BK379; clear BK384; clear BK391; clear HB; have HO_380000 := n0_; have HO_385000 := n1_; have HO_392000 := n2_; have HO395 := n3_; have BK367 := n4_; have BK379 := n5_; have BK384 := n6_; have BK391 := n7_; have HB := n8_; clear n0_ n1_ n2_ n3_ n4_ n5_ n6_ n7_ n8_; (try clear hb); (try clear hb2); (try clear hk); (try clear hi)))
            go_meet
            case rel => exact ⟨_,((t390 != t378)),(by first | rfl | (simp; done) | (simp [*]; done)),H',⟨by have := HJ17.out; first | omega | exact Nat.le_refl _⟩,⟨by (with_reducible repeat (first | apply Kd.R_alloc | apply Kd.R_drewN | apply Kd.R_drew)); exact Kd.R_mono HO_380000.out (fun _ hk => ⟨hk.1,hk.2.1⟩)⟩,⟨by (with_reducible repeat (first | apply Kd.R_alloc | apply Kd.R_drewN | apply Kd.R_drew)); exact Kd.R_mono HO_385000.out (fun _ hk => ⟨hk.1.1,hk.1.2⟩)⟩,⟨by (with_reducible repeat (first | apply Kd.R_alloc | apply Kd.R_drewN | apply Kd.R_drew)); exact Kd.R_mono HO_392000.out (fun _ hk => ⟨hk.1,hk.2.1⟩)⟩,⟨kA BK367.out⟩,⟨kA BK379.out⟩,⟨kA BK384.out⟩,⟨kA BK391.out⟩,⟨bA⟩⟩
           ·rw [if_neg c89] at H
            have c89b0 : (t389 == t377) = false := beq_eq_false_iff_ne.mpr c89
            have c89b1 : (t389 != t377) = true := bne_iff_ne.mpr c89
            have H' := Aside0.mk H
            clear H
            have hnb98 := NB391_367.out
            have hnc98 := NB367_391.out
            have hnb99 := NB391_379.out
            have hnc99 := NB379_391.out
            have hnb100 := NB391_384.out
            have hnc100 := NB384_391.out
            have hcz101_0 : w85.cell? ⟨gb391,0,none⟩ = some (.slice Ao39 t385.length co39) := (blk_cell BK391.out 0).trans rfl
            have hcz101_1 : w85.cell? ⟨gb391,1,none⟩ = some (.int .i64 t388) := (blk_cell BK391.out 1).trans rfl
            have hfz101_0 := blk_frozen BK391.out 0
            have hfz101_1 := blk_frozen BK391.out 1
            have hnb102 := NB379_367.out
            have hnc102 := NB367_379.out
            have hnb103 := NB379_384.out
            have hnc103 := NB384_379.out
            have hcz104_0 : w85.cell? ⟨gb379,0,none⟩ = some (.slice Ao27 t373.length co27) := (blk_cell BK379.out 0).trans rfl
            have hcz104_1 : w85.cell? ⟨gb379,1,none⟩ = some (.int .i64 t376) := (blk_cell BK379.out 1).trans rfl
            have hfz104_0 := blk_frozen BK379.out 0
            have hfz104_1 := blk_frozen BK379.out 1
            go_wp2_with (first | (go_at_call 11; (with_reducible refine (laws_eqStore.calls kj17 _ _ t385 t388 _ _ t373 t376 true _ ?side1 ?side2 ?side3 ?side4 A87.out).mono ?_); (case side1 => repeat (first | exact (Kd.R_reads' HO_392000.out).2.2 | (with_reducible refine Kd.C_alloc ?_ _) | (with_reducible refine Kd.C_drewN ?_ _) | (with_reducible refine Kd.C_drew ?_))); (case side2 => exact (Kd.R_reads' HO_392000.out).2.1); (case side3 => repeat (first | exact (Kd.R_reads' HO_380000.out).2.2 | (with_reducible refine Kd.C_alloc ?_ _) | (with_reducible refine Kd.C_drewN ?_ _) | (with_reducible refine Kd.C_drew ?_))); (case side4 => exact (Kd.R_reads' HO_380000.out).2.1); rintro e w105 ⟨rfl,hb⟩; have n0_ := Aside0.mk (Kd.R_below (rA HO_380000.out) hb); have n1_ := Aside0.mk (Kd.R_below (rA HO_385000.out) hb); have n2_ := Aside0.mk (Kd.R_below (rA HO_392000.out) hb); have n3_ := Aside0.mk (Kd.R_below (rA HO395.out) hb); have n4_ := Aside0.mk (blk_below (g:=gb367) (o:=.cells #[.slice A0_0 l0_0.length c0_0,.int .i64 a0_1] 24 (0,0)) (kA BK367.out) hb); have n5_ := Aside0.mk (blk_below (g:=gb379) (o:=.cells #[.slice Ao27 t373.length co27,.int .i64 t376] 28 (0,0)) (kA BK379.out) hb); have n6_ := Aside0.mk (blk_below (g:=gb384) (o:=.cells #[.slice Ao33 t380.length co33,.int .i64 t383] 28 (0,0)) (kA BK384.out) hb); have n7_ := Aside0.mk (blk_below (g:=gb391) (o:=.cells #[.slice Ao39 t385.length co39,.int .i64 t388] 28 (0,0)) (kA BK391.out) hb); have n8_ := Aside0.mk (below_step bA hb); clear HO_380000; clear HO_385000; clear HO_392000; clear HO395; clear BK367; clear BK379; clear BK384; clear BK391; clear HB; have HO_380000 := n0_; have HO_385000 := n1_; have HO_392000 := n2_; have HO395 := n3_; have BK367 := n4_; have BK379 := n5_; have BK384 := n6_; have BK391 := n7_; have HB := n8_; clear n0_ n1_ n2_ n3_ n4_ n5_ n6_ n7_ n8_; (try clear hb); (try clear hb2); (try clear hk); (try clear hi)))
            go_meet
            case rel => exact ⟨_,(true),(by first | rfl | (simp; done) | (simp [*]; done)),H',⟨by have := HJ17.out; first | omega | exact Nat.le_refl _⟩,⟨by (with_reducible repeat (first | apply Kd.R_alloc | apply Kd.R_drewN | apply Kd.R_drew)); exact Kd.R_mono HO_380000.out (fun _ hk => ⟨hk.1,hk.2.1⟩)⟩,⟨by (with_reducible repeat (first | apply Kd.R_alloc | apply Kd.R_drewN | apply Kd.R_drew)); exact Kd.R_mono HO_385000.out (fun _ hk => ⟨hk.1.1,hk.1.2⟩)⟩,⟨by (with_reducible repeat (first | apply Kd.R_alloc | apply Kd.R_drewN | apply Kd.R_drew)); exact Kd.R_mono HO_392000.out (fun _ hk => ⟨hk.1,hk.2.1⟩)⟩,⟨kA BK367.out⟩,⟨kA BK379.out⟩,⟨kA BK384.out⟩,⟨kA BK391.out⟩,⟨bA⟩⟩
          ·replace c88 := Bool.eq_false_iff.mpr c88
           subst c88
           rw [if_neg (show ¬ (false = true) by decide)] at H
           have H' := Aside0.mk H
           clear H
           have hnb106 := NB391_367.out
           have hnc106 := NB367_391.out
           have hnb107 := NB391_379.out
           have hnc107 := NB379_391.out
           have hnb108 := NB391_384.out
           have hnc108 := NB384_391.out
           have hcz109_0 : w85.cell? ⟨gb391,0,none⟩ = some (.slice Ao39 t385.length co39) := (blk_cell BK391.out 0).trans rfl
           have hcz109_1 : w85.cell? ⟨gb391,1,none⟩ = some (.int .i64 t388) := (blk_cell BK391.out 1).trans rfl
           have hfz109_0 := blk_frozen BK391.out 0
           have hfz109_1 := blk_frozen BK391.out 1
           have hnb110 := NB379_367.out
           have hnc110 := NB367_379.out
           have hnb111 := NB379_384.out
           have hnc111 := NB384_379.out
           have hcz112_0 : w85.cell? ⟨gb379,0,none⟩ = some (.slice Ao27 t373.length co27) := (blk_cell BK379.out 0).trans rfl
           have hcz112_1 : w85.cell? ⟨gb379,1,none⟩ = some (.int .i64 t376) := (blk_cell BK379.out 1).trans rfl
           have hfz112_0 := blk_frozen BK379.out 0
           have hfz112_1 := blk_frozen BK379.out 1
           go_wp2_with (first | (go_at_call 11; (with_reducible refine (laws_eqStore.calls kj17 _ _ t385 t388 _ _ t373 t376 false _ ?side1 ?side2 ?side3 ?side4 A87.out).mono ?_); (case side1 => repeat (first | exact (Kd.R_reads' HO_392000.out).2.2 | (with_reducible refine Kd.C_alloc ?_ _) | (with_reducible refine Kd.C_drewN ?_ _) | (with_reducible refine Kd.C_drew ?_))); (case side2 => exact (Kd.R_reads' HO_392000.out).2.1); (case side3 => repeat (first | exact (Kd.R_reads' HO_380000.out).2.2 | (with_reducible refine Kd.C_alloc ?_ _) | (with_reducible refine Kd.C_drewN ?_ _) | (with_reducible refine Kd.C_drew ?_))); (case side4 => exact (Kd.R_reads' HO_380000.out).2.1); rintro e w113 ⟨rfl,hb⟩; have n0_ := Aside0.mk (Kd.R_below (rA HO_380000.out) hb); have n1_ := Aside0.mk (Kd.R_below (rA HO_385000.out) hb); have n2_ := Aside0.mk (Kd.R_below (rA HO_392000.out) hb); have n3_ := Aside0.mk (Kd.R_below (rA HO395.out) hb); have n4_ := Aside0.mk (blk_below (g:=gb367) (o:=.cells #[.slice A0_0 l0_0.length c0_0,.int .i64 a0_1] 24 (0,0)) (kA BK367.out) hb); have n5_ := Aside0.mk (blk_below (g:=gb379) (o:=.cells #[.slice Ao27 t373.length co27,.int .i64 t376] 28 (0,0)) (kA BK379.out) hb); have n6_ := Aside0.mk (blk_below (g:=gb384) (o:=.cells #[.slice Ao33 t380.length co33,.int .i64 t383] 28 (0,0)) (kA BK384.out) hb); have n7_ := Aside0.mk (blk_below (g:=gb391) (o:=.cells #[.slice Ao39 t385.length co39,.int .i64 t388] 28 (0,0)) (kA BK391.out) hb); have n8_ := Aside0.mk (below_step bA hb); clear HO_380000; clear HO_385000; clear HO_392000; clear HO395; clear BK367; clear BK379; clear BK384; clear BK391; clear HB; have HO_380000 := n0_; have HO_385000 := n1_; have HO_392000 := n2_; have HO395 := n3_; have BK367 := n4_; have BK379 := n5_; have BK384 := n6_; have BK391 := n7_; have HB := n8_; clear n0_ n1_ n2_ n3_ n4_ n5_ n6_ n7_ n8_; (try clear hb); (try clear hb2); (try clear hk); (try clear hi)))
           go_meet
           case rel => exact ⟨_,(true),(by first | rfl | (simp; done) | (simp [*]; done)),H',⟨by have := HJ17.out; first | omega | exact Nat.le_refl _⟩,⟨by (with_reducible repeat (first | apply Kd.R_alloc | apply Kd.R_drewN | apply Kd.R_drew)); exact Kd.R_mono HO_380000.out (fun _ hk => ⟨hk.1,hk.2.1⟩)⟩,⟨by (with_reducible repeat (first | apply Kd.R_alloc | apply Kd.R_drewN | apply Kd.R_drew)); exact Kd.R_mono HO_385000.out (fun _ hk => ⟨hk.1.1,hk.1.2⟩)⟩,⟨by (with_reducible repeat (first | apply Kd.R_alloc | apply Kd.R_drewN | apply Kd.R_drew)); exact Kd.R_mono HO_392000.out (fun _ hk => ⟨hk.1,hk.2.1⟩)⟩,⟨kA BK367.out⟩,⟨kA BK379.out⟩,⟨kA BK384.out⟩,⟨kA BK391.out⟩,⟨bA⟩⟩
        case rest =>
         clear HC76
         try clear c1
         try clear c2
         try clear p2
         try clear c3
         try clear c4
         try clear c5
         try clear c5b0
         try clear c5b1
         try clear c6
         try clear c7
         try clear c7b0
         try clear c7b1
         try clear c8
         try clear c9
         try clear c10
         try clear c10b0
         try clear c11
         try clear c12
         try clear c21
         try clear c22
         try clear c28
         try clear c34
         try clear c35
         try clear c40
         try clear c41
         try clear c42
         try clear c45
         try clear c46
         try clear c46b0
         try clear c46b1
         try clear c47
         try clear c48
         try clear c49
         try clear c51
         try clear c52
         try clear c55
         try clear c56
         try clear c57
         try clear c59
         try clear c60
         try clear c63
         try clear c64
         try clear c65
         try clear c67
         try clear c68
         try clear c71
         try clear c74
         try clear c81
         try clear c82
         try clear c83
         try clear c86
         try clear c86b0
         try clear c88
         try clear c89
         try clear c89b0
         try clear c89b1
         try clear c90
         try clear c91
         try clear c92
         try clear c94
         try clear c95
         try clear c98
         try clear c99
         try clear c100
         try clear c102
         try clear c103
         try clear c106
         try clear c107
         try clear c108
         try clear c110
         try clear c111
         try clear hcz101_0
         try clear hcz101_1
         try clear hcz104_0
         try clear hcz104_1
         try clear hcz109_0
         try clear hcz109_1
         try clear hcz112_0
         try clear hcz112_1
         try clear hcz12_0
         try clear hcz12_1
         try clear hcz20_0
         try clear hcz20_1
         try clear hcz22_0
         try clear hcz22_1
         try clear hcz29_0
         try clear hcz29_1
         try clear hcz30_0
         try clear hcz30_1
         try clear hcz36_0
         try clear hcz36_1
         try clear hcz43_0
         try clear hcz43_1
         try clear hcz50_0
         try clear hcz50_1
         try clear hcz53_0
         try clear hcz53_1
         try clear hcz58_0
         try clear hcz58_1
         try clear hcz61_0
         try clear hcz61_1
         try clear hcz66_0
         try clear hcz66_1
         try clear hcz69_0
         try clear hcz69_1
         try clear hcz84_0
         try clear hcz84_1
         try clear hcz93_0
         try clear hcz93_1
         try clear hcz96_0
         try clear hcz96_1
         try clear hfz101_0
         try clear hfz101_1
         try clear hfz104_0
         try clear hfz104_1
         try clear hfz109_0
         try clear hfz109_1
         try clear hfz112_0
         try clear hfz112_1
         try clear hfz12_0
         try clear hfz12_1
         try clear hfz20_0
         try clear hfz20_1
         try clear hfz22_0
         try clear hfz22_1
         try clear hfz29_0
         try clear hfz29_1
         try clear hfz30_0
         try clear hfz30_1
         try clear hfz36_0
         try clear hfz36_1
         try clear hfz43_0
         try clear hfz43_1
         try clear hfz50_0
         try clear hfz50_1
         try clear hfz53_0
         try clear hfz53_1
         try clear hfz58_0
         try clear hfz58_1
         try clear hfz61_0
         try clear hfz61_1
         try clear hfz66_0
         try clear hfz66_1
         try clear hfz69_0
         try clear hfz69_1
         try clear hfz84_0
         try clear hfz84_1
         try clear hfz93_0
         try clear hfz93_1
         try clear hfz96_0
         try clear hfz96_1
         try clear p2
         obtain ⟨kq,x94_75,rfl,HA,HJ75,HO_380000,HO_385000,HO_392000,BK367,BK379,BK384,BK391,HB⟩ := hcut
         have hl385000_75 := (Kd.R_reads' HO_385000.out).1
         rw [hl385000_75] at HO_385000
         (try simp only [hl385000_75])
         (try simp only [hl385000_75] at BK367)
         (try simp only [hl385000_75] at BK379)
         (try simp only [hl385000_75] at BK384)
         (try simp only [hl385000_75] at BK391)
         (try simp only [hl385000_75] at HO_380000)
         (try simp only [hl385000_75] at HO_392000)
         cases kq with
         | zero => exact absurd HA.out (by simp [laws_FnExactPutVersion.j1])
         | succ kj75 =>
          have H := HA.out
          clear HA
          simp only [laws_FnExactPutVersion.j1] at H
          by_cases c114 : x94_75 = true
          ·subst c114
           rw [if_pos rfl] at H
           exact absurd H (by simp)
          ·replace c114 := Bool.eq_false_iff.mpr c114
           subst c114
           rw [if_neg (show ¬ (false = true) by decide)] at H
           replace H := Option.bind_eq_some_iff.mp H
           obtain ⟨⟨t401,t402⟩,A1150,H⟩ := H
           try dsimp only at H
           have A115 := Aside0.mk A1150
           clear A1150
           replace H := Option.bind_eq_some_iff.mp H
           obtain ⟨t403,A1160,H⟩ := H
           try dsimp only at H
           have A116 := Aside0.mk A1160
           clear A1160
           by_cases c117 : t403 < 0
           ·rw [if_pos c117] at H
            exact absurd H (by simp)
           ·rw [if_neg c117] at H
            have c117b0 : decide (t403 < 0) = false := decide_eq_false c117
            clear c117
            by_cases c118 : t403 = t401
            ·rw [if_pos c118] at H
             have c118b0 : (t403 == t401) = true := beq_iff_eq.mpr c118
             have c118b1 : (t403 != t401) = false := bne_eq_false_iff_eq.mpr c118
             clear c118
             replace H := Option.bind_eq_some_iff.mp H
             obtain ⟨⟨t404,t407⟩,A1190,H⟩ := H
             try dsimp only at H
             have A119 := Aside0.mk A1190
             clear A1190
             replace H := Option.bind_eq_some_iff.mp H
             obtain ⟨⟨t408,t411,t412,t413⟩,A1200,H⟩ := H
             try dsimp only at H
             have A120 := Aside0.mk A1200
             clear A1200
             have HC121 := Aside0.mk H
             clear H
             have hnb122 := NB391_367.out
             have hnc122 := NB367_391.out
             have hnb123 := NB391_379.out
             have hnc123 := NB379_391.out
             have hnb124 := NB391_384.out
             have hnc124 := NB384_391.out
             have hcz125_0 : wc.cell? ⟨gb391,0,none⟩ = some (.slice Ao39 t385.length co39) := (blk_cell BK391.out 0).trans rfl
             have hcz125_1 : wc.cell? ⟨gb391,1,none⟩ = some (.int .i64 t388) := (blk_cell BK391.out 1).trans rfl
             have hfz125_0 := blk_frozen BK391.out 0
             have hfz125_1 := blk_frozen BK391.out 1
             go_upto_region 29 with (first | ((with_reducible refine gate_callee (f:=12) rfl ?_); refine goesL_ (some 97) rfl rfl Try.func12 (by kernel_rfl) rfl #[.agg #[.slice Ao39 t385.length co39,.int .i64 t388],.int .i64 1] rfl mA ?_; (with_reducible refine (laws_markStore.calls kj75 (fun k_ => some k_ = (.slice Ao39 t385.length co39 : Value).ownBlock) (.slice Ao39 t385.length co39) t385 t388 1 t401 t402 w _ ?side1 ?side2 A115.out).mono ?_); (case side1 => exact bA); (case side2 => exact Kd.R_tight rfl HO_392000.out); rintro e w126 ⟨rfl,hy0,hb,hkp⟩; refine ⟨_,rfl,?_⟩; have n0_ := Aside0.mk (Kd.R_mono (ok' := fun k_ => some k_ ≠ (.slice Ao33 t399.length co33 : Value).ownBlock ∧ some k_ ≠ (.slice Ao39 t385.length co39 : Value).ownBlock) (Kd.R_keptB (HO_380000.out) hkp (fun k_ hk_ hs_ => (hk_.2) hs_)) (fun k_ hk_ => ⟨hk_.1.1,hk_.1.2⟩)); have n1_ := Aside0.mk (Kd.R_mono (ok' := fun k_ => some k_ ≠ (.slice Ao27 t373.length co27 : Value).ownBlock ∧ some k_ ≠ (.slice Ao39 t385.length co39 : Value).ownBlock) (Kd.R_keptB (HO_385000.out) hkp (fun k_ hk_ hs_ => (hk_.2) hs_)) (fun k_ hk_ => ⟨hk_.1.1,hk_.1.2⟩)); have n2_ := Aside0.mk (Kd.R_reok rfl hy0 (fun k_ e_ => HO_392000.out.1 k_ e_)); have n3_ := Aside0.mk (blk_kept (kA BK367.out) hkp (fun hs_ => (fun e_ => (Kd.R_ne HO_392000.out BK367.out (by decide)) e_) hs_)); have n4_ := Aside0.mk (blk_kept (kA BK379.out) hkp (fun hs_ => (fun e_ => (Kd.R_ne HO_392000.out BK379.out (by decide)) e_) hs_)); have n5_ := Aside0.mk (blk_kept (kA BK384.out) hkp (fun hs_ => (fun e_ => (Kd.R_ne HO_392000.out BK384.out (by decide)) e_) hs_)); have n6_ := Aside0.mk (blk_kept (kA BK391.out) hkp (fun hs_ => (fun e_ => (Kd.R_ne HO_392000.out BK391.out (by decide)) e_) hs_)); have n7_ := Aside0.mk (hb); clear HO_380000; clear HO_385000; clear HO_392000; clear BK367; clear BK379; clear BK384; clear BK391; clear HB; have HO_380000 := n0_; have HO_385000 := n1_; have HO_392000 := n2_; have BK367 := n3_; have BK379 := n4_; have BK384 := n5_; have BK391 := n6_; have HB := n7_; clear n0_ n1_ n2_ n3_ n4_ n5_ n6_ n7_; (try clear hb); (try clear hkp); (try clear hy0); have hcz127_0 : w126.cell? ⟨gb391,0,none⟩ = some (.slice Ao39 t385.length co39) := (blk_cell BK391.out 0).trans rfl; have hcz127_1 : w126.cell? ⟨gb391,1,none⟩ = some (.int .i64 t388) := (blk_cell BK391.out 1).trans rfl; have hfz127_0 := blk_frozen BK391.out 0; have hfz127_1 := blk_frozen BK391.out 1) | ((with_reducible refine gate_callee (f:=13) rfl ?_); refine goesL_ (some 100) rfl rfl Try.func13 (by kernel_rfl) rfl #[.agg #[.slice Ao39 t402.length co39,.int .i64 t388],.int .i64 1] rfl (by (try simp only [List.map_toArray,List.map_cons,List.map_nil]); first | done | (rw [show t402.length = t385.length from (Kd.R_reads' HO_392000.out).1.symm] <;> rfl) | rfl | (simp only [List.length_drop,List.length_take]; rfl)) ?_; (with_reducible refine (laws_heldStore.calls kj75 _ _ t402 t388 1 t403 _ ?side1 ?side2 A116.out).mono ?_); (case side1 => repeat (first | exact (Kd.R_reads' HO_392000.out).2.2 | (with_reducible refine Kd.C_alloc ?_ _) | (with_reducible refine Kd.C_drewN ?_ _) | (with_reducible refine Kd.C_drew ?_))); (case side2 => rw [show t402.length = t385.length from (Kd.R_reads' HO_392000.out).1.symm]; exact (Kd.R_reads' HO_392000.out).2.1); rintro e w128 ⟨rfl,hb⟩; refine ⟨_,rfl,?_⟩; have n0_ := Aside0.mk (Kd.R_below (rA HO_380000.out) hb); have n1_ := Aside0.mk (Kd.R_below (rA HO_385000.out) hb); have n2_ := Aside0.mk (Kd.R_below (rA HO_392000.out) hb); have n3_ := Aside0.mk (blk_below (g:=gb367) (o:=.cells #[.slice A0_0 l0_0.length c0_0,.int .i64 a0_1] 24 (0,0)) (kA BK367.out) hb); have n4_ := Aside0.mk (blk_below (g:=gb379) (o:=.cells #[.slice Ao27 t373.length co27,.int .i64 t376] 28 (0,0)) (kA BK379.out) hb); have n5_ := Aside0.mk (blk_below (g:=gb384) (o:=.cells #[.slice Ao33 t399.length co33,.int .i64 t383] 28 (0,0)) (kA BK384.out) hb); have n6_ := Aside0.mk (blk_below (g:=gb391) (o:=.cells #[.slice Ao39 t385.length co39,.int .i64 t388] 28 (0,0)) (kA BK391.out) hb); have n7_ := Aside0.mk (below_step bA hb); clear HO_380000; clear HO_385000; clear HO_392000; clear BK367; clear BK379; clear BK384; clear BK391; clear HB; have HO_380000 := n0_; have HO_385000 := n1_; have HO_392000 := n2_; have BK367 := n3_; have BK379 := n4_; have BK384 := n5_; have BK391 := n6_; have HB := n7_; clear n0_ n1_ n2_ n3_ n4_ n5_ n6_ n7_; (try clear hb); (try clear hb2); (try clear hk); (try clear hi); have hnb129 := NB367_379.out; have hnc129 := NB379_367.out; have hnb130 := NB367_384.out; have hnc130 := NB384_367.out; have hcz131_0 : w128.cell? ⟨gb367,0,none⟩ = some (.slice A0_0 l0_0.length c0_0) := (blk_cell BK367.out 0).trans rfl; have hcz131_1 : w128.cell? ⟨gb367,1,none⟩ = some (.int .i64 a0_1) := (blk_cell BK367.out 1).trans rfl; have hfz131_0 := blk_frozen BK367.out 0; have hfz131_1 := blk_frozen BK367.out 1) | ((with_reducible refine gate_callee (f:=9) rfl ?_); refine goesL_ (some 108) rfl rfl Try.func9 (by kernel_rfl) rfl #[.agg #[.slice A0_0 l0_0.length c0_0,.int .i64 a0_1]] rfl mA ?_; (with_reducible refine (laws_toStore.calls kj75 _ _ l0_0 a0_1 t404 t407 _ ?side1 ?side2 A119.out).mono ?_); (case side1 => repeat (first | exact (Kd.C_below HR0_0.out HB.out) | (with_reducible refine Kd.C_alloc ?_ _) | (with_reducible refine Kd.C_drewN ?_ _) | (with_reducible refine Kd.C_drew ?_))); (case side2 => exact HC0_0.out); rintro e w132 ⟨v405,rfl,ho0,hb⟩; refine ⟨_,rfl,?_⟩; have n0_ := Aside0.mk (Kd.R_elder' (rA HO_380000.out) (Kd.R_base ho0) hb); have n1_ := Aside0.mk (Kd.R_elder' (rA HO_385000.out) (Kd.R_base ho0) hb); have n2_ := Aside0.mk (Kd.R_elder' (rA HO_392000.out) (Kd.R_base ho0) hb); have n3_ := Aside0.mk (Kd.R_lower (Kd.R_new' (Kd.R_new' (Kd.R_new' ho0 (Kd.R_lt (rA HO_380000.out))) (Kd.R_lt (rA HO_385000.out))) (Kd.R_lt (rA HO_392000.out))) (below_size bA)); have n4_ := Aside0.mk (blk_below (g:=gb367) (o:=.cells #[.slice A0_0 l0_0.length c0_0,.int .i64 a0_1] 24 (0,0)) (kA BK367.out) hb); have n5_ := Aside0.mk (blk_below (g:=gb379) (o:=.cells #[.slice Ao27 t373.length co27,.int .i64 t376] 28 (0,0)) (kA BK379.out) hb); have n6_ := Aside0.mk (blk_below (g:=gb384) (o:=.cells #[.slice Ao33 t399.length co33,.int .i64 t383] 28 (0,0)) (kA BK384.out) hb); have n7_ := Aside0.mk (blk_below (g:=gb391) (o:=.cells #[.slice Ao39 t385.length co39,.int .i64 t388] 28 (0,0)) (kA BK391.out) hb); have n8_ := Aside0.mk (below_step bA hb); clear HO_380000; clear HO_385000; clear HO_392000; clear BK367; clear BK379; clear BK384; clear BK391; clear HB; have HO_380000 := n0_; have HO_385000 := n1_; have HO_392000 := n2_; have HO406 := n3_; have BK367 := n4_; have BK379 := n5_; have BK384 := n6_; have BK391 := n7_; have HB := n8_; clear n0_ n1_ n2_ n3_ n4_ n5_ n6_ n7_ n8_; (try clear hb); (try clear hb2); (try clear hk); (try clear hi); (try clear ho0); obtain ⟨Ao133,co133,eo133⟩ := Kd.R_slice HO406.out; subst eo133) | ((with_reducible refine gate_callee (f:=22) rfl ?_); refine goesL_ (some 112) rfl rfl Try.func22 (by kernel_rfl) rfl #[.agg #[.slice Ao133 t404.length co133,.int .i64 t407],.string a1,.int .i64 a2,.string a3] rfl mA ?_; (with_reducible refine (impl_PutVersion.calls kj75 _ _ t404 t407 a1 a2 a3 t408 t411 t412 t413 _ ?side1 ?side2 A120.out).mono ?_); (case side1 => repeat (first | exact (Kd.R_reads' HO406.out).2.2 | (with_reducible refine Kd.C_alloc ?_ _) | (with_reducible refine Kd.C_drewN ?_ _) | (with_reducible refine Kd.C_drew ?_))); (case side2 => exact (Kd.R_reads' HO406.out).2.1); rintro e w134 ⟨v409,rfl,ho0,hb⟩; refine ⟨_,rfl,?_⟩; have n0_ := Aside0.mk (Kd.R_elder' (rA HO_380000.out) (Kd.R_base ho0) hb); have n1_ := Aside0.mk (Kd.R_elder' (rA HO_385000.out) (Kd.R_base ho0) hb); have n2_ := Aside0.mk (Kd.R_elder' (rA HO_392000.out) (Kd.R_base ho0) hb); have n3_ := Aside0.mk (Kd.R_elder' (rA HO406.out) (Kd.R_base ho0) hb); have n4_ := Aside0.mk (Kd.R_lower (Kd.R_new' (Kd.R_new' (Kd.R_new' (Kd.R_new' ho0 (Kd.R_lt (rA HO_380000.out))) (Kd.R_lt (rA HO_385000.out))) (Kd.R_lt (rA HO_392000.out))) (Kd.R_lt (rA HO406.out))) (below_size bA)); have n5_ := Aside0.mk (blk_below (g:=gb367) (o:=.cells #[.slice A0_0 l0_0.length c0_0,.int .i64 a0_1] 24 (0,0)) (kA BK367.out) hb); have n6_ := Aside0.mk (blk_below (g:=gb379) (o:=.cells #[.slice Ao27 t373.length co27,.int .i64 t376] 28 (0,0)) (kA BK379.out) hb); have n7_ := Aside0.mk (blk_below (g:=gb384) (o:=.cells #[.slice Ao33 t399.length co33,.int .i64 t383] 28 (0,0)) (kA BK384.out) hb); have n8_ := Aside0.mk (blk_below (g:=gb391) (o:=.cells #[.slice Ao39 t385.length co39,.int .i64 t388] 28 (0,0)) (kA BK391.out) hb); have n9_ := Aside0.mk (below_step bA hb); clear HO_380000; clear HO_385000; clear HO_392000; clear HO406; clear BK367; clear BK379; clear BK384; clear BK391; clear HB; have HO_380000 := n0_; have HO_385000 := n1_; have HO_392000 := n2_; have HO406 := n3_; have HO410 := n4_; have BK367 := n5_; have BK379 := n6_; have BK384 := n7_; have BK391 := n8_; have HB := n9_; clear n0_ n1_ n2_ n3_ n4_ n5_ n6_ n7_ n8_ n9_; (try clear hb); (try clear hb2); (try clear hk); (try clear hi); (try clear ho0)) | ((with_reducible refine gate_dst (N:=20) rfl ?_); refine box_event ?hg (N:=20) ?hd (cs := #[.slice none 0 0,.int .i64 0]) (t:=28) ?hr ?_; (case hd => rfl); (case hg => rfl); (case hr => first | (go_simp; done) | (go_simp; rfl)); intro gb414 hg w135 hbox hb; have n0_ := Aside0.mk (Kd.R_below (rA HO_380000.out) hb); have n1_ := Aside0.mk (Kd.R_below (rA HO_385000.out) hb); have n2_ := Aside0.mk (Kd.R_below (rA HO_392000.out) hb); have n3_ := Aside0.mk (Kd.R_below (rA HO406.out) hb); have n4_ := Aside0.mk (Kd.R_below (rA HO410.out) hb); have n5_ := Aside0.mk (blk_below (g:=gb367) (o:=.cells #[.slice A0_0 l0_0.length c0_0,.int .i64 a0_1] 24 (0,0)) (kA BK367.out) hb); have n6_ := Aside0.mk (blk_below (g:=gb379) (o:=.cells #[.slice Ao27 t373.length co27,.int .i64 t376] 28 (0,0)) (kA BK379.out) hb); have n7_ := Aside0.mk (blk_below (g:=gb384) (o:=.cells #[.slice Ao33 t399.length co33,.int .i64 t383] 28 (0,0)) (kA BK384.out) hb); have n8_ := Aside0.mk (blk_below (g:=gb391) (o:=.cells #[.slice Ao39 t385.length co39,.int .i64 t388] 28 (0,0)) (kA BK391.out) hb); have n9_ := Aside0.mk (below_step bA hb); have n10_ := Aside0.mk (hbox); have n11_ := Aside0.mk ((by rw [hg]; exact (below_size bA) : w.heap.size ≤ gb414)); have n12_ := Aside0.mk ((by rw [hg]; exact (below_size bA) : w.heap.size ≤ gb414)); have n13_ := Aside0.mk ((by rw [hg]; exact Nat.ne_of_lt (blk_lt (g:=gb367) (o:=.cells #[.slice A0_0 l0_0.length c0_0,.int .i64 a0_1] 24 (0,0)) (kA BK367.out)) : gb367 ≠ gb414)); have n14_ := Aside0.mk ((by rw [hg]; exact Nat.ne_of_gt (blk_lt (g:=gb367) (o:=.cells #[.slice A0_0 l0_0.length c0_0,.int .i64 a0_1] 24 (0,0)) (kA BK367.out)) : gb414 ≠ gb367)); have n15_ := Aside0.mk ((by rw [hg]; exact Nat.ne_of_lt (blk_lt (g:=gb379) (o:=.cells #[.slice Ao27 t373.length co27,.int .i64 t376] 28 (0,0)) (kA BK379.out)) : gb379 ≠ gb414)); have n16_ := Aside0.mk ((by rw [hg]; exact Nat.ne_of_gt (blk_lt (g:=gb379) (o:=.cells #[.slice Ao27 t373.length co27,.int .i64 t376] 28 (0,0)) (kA BK379.out)) : gb414 ≠ gb379)); have n17_ := Aside0.mk ((by rw [hg]; exact Nat.ne_of_lt (blk_lt (g:=gb384) (o:=.cells #[.slice Ao33 t399.length co33,.int .i64 t383] 28 (0,0)) (kA BK384.out)) : gb384 ≠ gb414)); have n18_ := Aside0.mk ((by rw [hg]; exact Nat.ne_of_gt (blk_lt (g:=gb384) (o:=.cells #[.slice Ao33 t399.length co33,.int .i64 t383] 28 (0,0)) (kA BK384.out)) : gb414 ≠ gb384)); have n19_ := Aside0.mk ((by rw [hg]; exact Nat.ne_of_lt (blk_lt (g:=gb391) (o:=.cells #[.slice Ao39 t385.length co39,.int .i64 t388] 28 (0,0)) (kA BK391.out)) : gb391 ≠ gb414)); have n20_ := Aside0.mk ((by rw [hg]; exact Nat.ne_of_gt (blk_lt (g:=gb391) (o:=.cells #[.slice Ao39 t385.length co39,.int .i64 t388] 28 (0,0)) (kA BK391.out)) : gb414 ≠ gb391)); clear HO_380000; clear HO_385000; clear HO_392000; clear HO406; clear HO410; clear BK367; clear BK379; clear BK384; clear BK391; clear HB; have HO_380000 := n0_; have HO_385000 := n1_; have HO_392000 := n2_; have HO406 := n3_; have HO410 := n4_; have BK367 := n5_; have BK379 := n6_; have BK384 := n7_; have BK391 := n8_; have HB := n9_; have BK414 := n10_; have GW414 := n11_; have GE414 := n12_; have NB367_414 := n13_; have NB414_367 := n14_; have NB379_414 := n15_; have NB414_379 := n16_; have NB384_414 := n17_; have NB414_384 := n18_; have NB391_414 := n19_; have NB414_391 := n20_; clear n0_ n1_ n2_ n3_ n4_ n5_ n6_ n7_ n8_ n9_ n10_ n11_ n12_ n13_ n14_ n15_ n16_ n17_ n18_ n19_ n20_; clear hb hbox hg; obtain ⟨Ao136,co136,eo136⟩ := Kd.R_slice HO410.out; subst eo136; have hnb137 := NB414_367.out; have hnc137 := NB367_414.out; have hnb138 := NB414_379.out; have hnc138 := NB379_414.out; have hnb139 := NB414_384.out; have hnc139 := NB384_414.out; have hnb140 := NB414_391.out; have hnc140 := NB391_414.out; have hcz141_0 : w135.cell? ⟨gb414,0,none⟩ = some (.slice none 0 0) := (blk_cell BK414.out 0).trans rfl; have hcz141_1 : w135.cell? ⟨gb414,1,none⟩ = some (.int .i64 0) := (blk_cell BK414.out 1).trans rfl; have hfz141_0 := blk_frozen BK414.out 0; have hfz141_1 := blk_frozen BK414.out 1))
             (try simp only [Act.put,setIfInBounds_toArray,set_cons_zero,set_cons_succ])
             go_cut [129] (fun v129 wc => ∃ (kq : Nat) (x129_120 : Bool),v129 = .bool x129_120 ∧ Aside0 (laws_FnExactPutVersion.j2 kq t401 x129_120 t402 t388 = some r) ∧ Aside0 (kq ≤ kj75) ∧ Aside0 (Kd.R k71 71 wc w.heap.size (fun k_ => some k_ ≠ ((.slice Ao33 t399.length co33) : Value).ownBlock ∧ some k_ ≠ ((.slice Ao39 t385.length co39) : Value).ownBlock ∧ some k_ ≠ ((.slice Ao136 t408.length co136) : Value).ownBlock) (.slice Ao27 t373.length co27) t373) ∧ Aside0 (Kd.R k71 71 wc w.heap.size (fun k_ => some k_ ≠ ((.slice Ao27 t373.length co27) : Value).ownBlock ∧ some k_ ≠ ((.slice Ao39 t385.length co39) : Value).ownBlock ∧ some k_ ≠ ((.slice Ao136 t408.length co136) : Value).ownBlock) (.slice Ao33 t399.length co33) t399) ∧ Aside0 (Kd.R k71 71 wc w.heap.size (fun k_ => some k_ ≠ ((.slice Ao27 t373.length co27) : Value).ownBlock ∧ some k_ ≠ ((.slice Ao33 t399.length co33) : Value).ownBlock ∧ some k_ ≠ ((.slice Ao136 t408.length co136) : Value).ownBlock) (.slice Ao39 t385.length co39) t402) ∧ Aside0 (Kd.R k71 71 wc w.heap.size (fun k_ => some k_ ≠ ((.slice Ao27 t373.length co27) : Value).ownBlock ∧ some k_ ≠ ((.slice Ao33 t399.length co33) : Value).ownBlock ∧ some k_ ≠ ((.slice Ao39 t385.length co39) : Value).ownBlock) (.slice Ao136 t408.length co136) t408) ∧ Aside0 (wc.heap[gb367]? = some (.cells #[(.slice A0_0 l0_0.length c0_0),.int .i64 a0_1] 24 (0,0))) ∧ Aside0 (wc.heap[gb379]? = some (.cells #[(.slice Ao27 t373.length co27),.int .i64 t376] 28 (0,0))) ∧ Aside0 (wc.heap[gb384]? = some (.cells #[(.slice Ao33 t399.length co33),.int .i64 t383] 28 (0,0))) ∧ Aside0 (wc.heap[gb391]? = some (.cells #[(.slice Ao39 t385.length co39),.int .i64 t388] 28 (0,0))) ∧ Aside0 (wc.heap[gb414]? = some (.cells #[(.slice Ao136 t408.length co136),.int .i64 t411] 28 (0,0))) ∧ Aside0 (Below w.heap.size w wc))
             case first =>
              have H := HC121.out
              clear HC121
              replace H := Option.bind_eq_some_iff.mp H
              obtain ⟨t415,A1420,H⟩ := H
              try dsimp only at H
              have A142 := Aside0.mk A1420
              clear A1420
              by_cases c143 : t415 = true
              ·subst c143
               rw [if_pos rfl] at H
               by_cases c144 : t412 = t377
               ·rw [if_pos c144] at H
                have c144b0 : (t412 == t377) = true := beq_iff_eq.mpr c144
                have c144b1 : (t412 != t377) = false := bne_eq_false_iff_eq.mpr c144
                clear c144
                (first | rw [c144b0] | (simp only [i64_w,i32_w]; rw [c144b0]) | skip)
                have H' := Aside0.mk H
                clear H
                have hnb145 := NB414_367.out
                have hnc145 := NB367_414.out
                have hnb146 := NB414_379.out
                have hnc146 := NB379_414.out
                have hnb147 := NB414_384.out
                have hnc147 := NB384_414.out
                have hnb148 := NB414_391.out
                have hnc148 := NB391_414.out
                have hcz149_0 : w135.cell? ⟨gb414,0,none⟩ = some (.slice none 0 0) := (blk_cell BK414.out 0).trans rfl
                have hcz149_1 : w135.cell? ⟨gb414,1,none⟩ = some (.int .i64 0) := (blk_cell BK414.out 1).trans rfl
                have hfz149_0 := blk_frozen BK414.out 0
                have hfz149_1 := blk_frozen BK414.out 1
                have hnb150 := NB379_367.out
                have hnc150 := NB367_379.out
                have hnb151 := NB379_384.out
                have hnc151 := NB384_379.out
                have hnb152 := NB379_391.out
                have hnc152 := NB391_379.out
                have hcz153_0 : w135.cell? ⟨gb379,0,none⟩ = some (.slice Ao27 t373.length co27) := (blk_cell BK379.out 0).trans rfl
                have hcz153_1 : w135.cell? ⟨gb379,1,none⟩ = some (.int .i64 t376) := (blk_cell BK379.out 1).trans rfl
                have hfz153_0 := blk_frozen BK379.out 0
                have hfz153_1 := blk_frozen BK379.out 1
                go_wp2_with (first | ((with_reducible refine gate_callee (f:=11) rfl ?_); refine goesL_ (some 118) rfl rfl Try.func11 (by kernel_rfl) rfl #[.agg #[.slice Ao136 t408.length co136,.int .i64 t411],.agg #[.slice Ao27 t373.length co27,.int .i64 t376]] rfl mA ?_; (with_reducible refine (laws_eqStore.calls kj75 _ _ t408 t411 _ _ t373 t376 true _ ?side1 ?side2 ?side3 ?side4 A142.out).mono ?_); (case side1 => refine (Kd.R_reads' (e:=71) (base := w.heap.size) (ok := fun k_ => ((((True ∧ some k_ ≠ (.slice Ao27 t373.length co27 : Value).ownBlock) ∧ some k_ ≠ (.slice Ao33 t399.length co33 : Value).ownBlock) ∧ some k_ ≠ (.slice Ao39 t385.length co39 : Value).ownBlock) ∧ some k_ ≠ (.slice Ao133 t404.length co133 : Value).ownBlock)) (n:=t408.length) (c:=co136) ?_).2.2; exact (by (with_reducible repeat (first | apply Kd.R_alloc | apply Kd.R_drewN | apply Kd.R_drew)); exact (Kd.R_mono (Kd.R_far (p:=⟨gb414,1,none⟩) (Kd.R_far (p:=⟨gb414,0,none⟩) (Kd.R_types HO410.out BK414.out (by decide)) (fun _ hk => hk.2) (.slice Ao136 t408.length co136)) (fun _ hk => hk.2) (.int .i64 t411)) (fun _ h_ => h_.1)))); (case side2 => exact (Kd.R_reads' HO410.out).2.1); (case side3 => refine (Kd.R_reads' (e:=71) (base := w.heap.size) (ok := fun k_ => (((some k_ ≠ (.slice Ao33 t399.length co33 : Value).ownBlock ∧ some k_ ≠ (.slice Ao39 t385.length co39 : Value).ownBlock) ∧ some k_ ≠ (.slice Ao133 t404.length co133 : Value).ownBlock) ∧ some k_ ≠ (.slice Ao136 t408.length co136 : Value).ownBlock)) (n:=t373.length) (c:=co27) ?_).2.2; exact (by (with_reducible repeat (first | apply Kd.R_alloc | apply Kd.R_drewN | apply Kd.R_drew)); exact (Kd.R_mono (Kd.R_far (p:=⟨gb414,1,none⟩) (Kd.R_far (p:=⟨gb414,0,none⟩) (Kd.R_types HO_380000.out BK414.out (by decide)) (fun _ hk => hk.2) (.slice Ao136 t408.length co136)) (fun _ hk => hk.2) (.int .i64 t411)) (fun _ h_ => h_.1)))); (case side4 => exact (Kd.R_reads' HO_380000.out).2.1); rintro e w154 ⟨rfl,hb⟩; refine ⟨_,rfl,?_⟩; have n0_ := Aside0.mk (Kd.R_below (by (with_reducible repeat (first | apply Kd.R_alloc | apply Kd.R_drewN | apply Kd.R_drew)); exact (Kd.R_mono (Kd.R_far (p:=⟨gb414,1,none⟩) (Kd.R_far (p:=⟨gb414,0,none⟩) (Kd.R_types HO_380000.out BK414.out (by decide)) (fun _ hk => hk.2) (.slice Ao136 t408.length co136)) (fun _ hk => hk.2) (.int .i64 t411)) (fun _ h_ => h_.1))) hb); have n1_ := Aside0.mk (Kd.R_below (by (with_reducible repeat (first | apply Kd.R_alloc | apply Kd.R_drewN | apply Kd.R_drew)); exact (Kd.R_mono (Kd.R_far (p:=⟨gb414,1,none⟩) (Kd.R_far (p:=⟨gb414,0,none⟩) (Kd.R_types HO_385000.out BK414.out (by decide)) (fun _ hk => hk.2) (.slice Ao136 t408.length co136)) (fun _ hk => hk.2) (.int .i64 t411)) (fun _ h_ => h_.1))) hb); have n2_ := Aside0.mk (Kd.R_below (by (with_reducible repeat (first | apply Kd.R_alloc | apply Kd.R_drewN | apply Kd.R_drew)); exact (Kd.R_mono (Kd.R_far (p:=⟨gb414,1,none⟩) (Kd.R_far (p:=⟨gb414,0,none⟩) (Kd.R_types HO_392000.out BK414.out (by decide)) (fun _ hk => hk.2) (.slice Ao136 t408.length co136)) (fun _ hk => hk.2) (.int .i64 t411)) (fun _ h_ => h_.1))) hb); have n3_ := Aside0.mk (Kd.R_below (by (with_reducible repeat (first | apply Kd.R_alloc | apply Kd.R_drewN | apply Kd.R_drew)); exact (Kd.R_mono (Kd.R_far (p:=⟨gb414,1,none⟩) (Kd.R_far (p:=⟨gb414,0,none⟩) (Kd.R_types HO406.out BK414.out (by decide)) (fun _ hk => hk.2) (.slice Ao136 t408.length co136)) (fun _ hk => hk.2) (.int .i64 t411)) (fun _ h_ => h_.1))) hb); have n4_ := Aside0.mk (Kd.R_below (by (with_reducible repeat (first | apply Kd.R_alloc | apply Kd.R_drewN | apply Kd.R_drew)); exact (Kd.R_mono (Kd.R_far (p:=⟨gb414,1,none⟩) (Kd.R_far (p:=⟨gb414,0,none⟩) (Kd.R_types HO410.out BK414.out (by decide)) (fun _ hk => hk.2) (.slice Ao136 t408.length co136)) (fun _ hk => hk.2) (.int .i64 t411)) (fun _ h_ => h_.1))) hb); have n5_ := Aside0.mk (blk_below (g:=gb367) (o:=.cells #[.slice A0_0 l0_0.length c0_0,.int .i64 a0_1] 24 (0,0)) (kF BK367.out) hb); have n6_ := Aside0.mk (blk_below (g:=gb379) (o:=.cells #[.slice Ao27 t373.length co27,.int .i64 t376] 28 (0,0)) (kF BK379.out) hb); have n7_ := Aside0.mk (blk_below (g:=gb384) (o:=.cells #[.slice Ao33 t399.length co33,.int .i64 t383] 28 (0,0)) (kF BK384.out) hb); have n8_ := Aside0.mk (blk_below (g:=gb391) (o:=.cells #[.slice Ao39 t385.length co39,.int .i64 t388] 28 (0,0)) (kF BK391.out) hb); have n9_ := Aside0.mk (blk_below (g:=gb414) (o:=.cells #[.slice Ao136 t408.length co136,.int .i64 t411] 28 (0,0)) (by (with_reducible repeat (first | refine blk_drewN ?_ _ | refine blk_drew ?_ | refine blk_alloc ?_ _)); refine blk_put (cs := #[.slice Ao136 t408.length co136,.int .i64 0]) ?_ 1 _ rfl; (with_reducible repeat (first | refine blk_drewN ?_ _ | refine blk_drew ?_ | refine blk_alloc ?_ _)); refine blk_put (cs := #[.slice none 0 0,.int .i64 0]) ?_ 0 _ rfl; (with_reducible repeat (first | refine blk_drewN ?_ _ | refine blk_drew ?_ | refine blk_alloc ?_ _)); exact BK414.out) hb); have n10_ := Aside0.mk (below_step bA hb); clear HO_380000; clear HO_385000; clear HO_392000; clear HO406; clear HO410; clear BK367; clear BK379; clear BK384; clear BK391; clear BK414; clear HB; have HO_380000 := n0_; have HO_385000 := n1_; have HO_392000 := n2_; have HO406 := n3_; have HO410 := n4_; have BK367 := n5_; have BK379 := n6_; have BK384 := n7_; have BK391 := n8_; have BK414 := n9_; have HB := n10_; clear n0_ n1_ n2_ n3_ n4_ n5_ n6_ n7_ n8_ n9_ n10_; (try clear hb); (try clear hb2); (try clear hk); (try clear hi)))
                go_meet
                case rel => exact ⟨_,((t413 != t378)),(by first | rfl | (simp; done) | (simp [*]; done)),H',⟨by have := HJ17.out; have := HJ75.out; first | omega | exact Nat.le_refl _⟩,⟨by (try simp only [hl385000_75]); (with_reducible repeat (first | apply Kd.R_alloc | apply Kd.R_drewN | apply Kd.R_drew)); exact Kd.R_mono HO_380000.out (fun _ hk => ⟨hk.1.1.1,⟨hk.1.1.2,hk.2⟩⟩)⟩,⟨by (try simp only [hl385000_75]); (with_reducible repeat (first | apply Kd.R_alloc | apply Kd.R_drewN | apply Kd.R_drew)); exact Kd.R_mono HO_385000.out (fun _ hk => ⟨hk.1.1.1,⟨hk.1.1.2,hk.2⟩⟩)⟩,⟨by (try simp only [hl385000_75]); (with_reducible repeat (first | apply Kd.R_alloc | apply Kd.R_drewN | apply Kd.R_drew)); exact Kd.R_mono HO_392000.out (fun _ hk => ⟨hk.1.1.1,⟨hk.1.1.2,hk.2⟩⟩)⟩,⟨by (try simp only [hl385000_75]); (with_reducible repeat (first | apply Kd.R_alloc | apply Kd.R_drewN | apply Kd.R_drew)); exact Kd.R_mono HO410.out (fun _ hk => ⟨hk.1.1.1.2,⟨hk.1.1.2,hk.1.2⟩⟩)⟩,⟨by (try simp only [hl385000_75]); (with_reducible repeat (first | refine blk_drewN ?_ _ | refine blk_drew ?_ | refine blk_alloc ?_ _)); exact BK367.out⟩,⟨by (try simp only [hl385000_75]); (with_reducible repeat (first | refine blk_drewN ?_ _ | refine blk_drew ?_ | refine blk_alloc ?_ _)); exact BK379.out⟩,⟨by (try simp only [hl385000_75]); (with_reducible repeat (first | refine blk_drewN ?_ _ | refine blk_drew ?_ | refine blk_alloc ?_ _)); exact BK384.out⟩,⟨by (try simp only [hl385000_75]); (with_reducible repeat (first | refine blk_drewN ?_ _ | refine blk_drew ?_ | refine blk_alloc ?_ _)); exact BK391.out⟩,⟨by (try simp only [hl385000_75]); (with_reducible repeat (first | refine blk_drewN ?_ _ | refine blk_drew ?_ | refine blk_alloc ?_ _)); exact BK414.out⟩,⟨bA⟩⟩
               ·rw [if_neg c144] at H
                have c144b0 : (t412 == t377) = false := beq_eq_false_iff_ne.mpr c144
                have c144b1 : (t412 != t377) = true := bne_iff_ne.mpr c144
                (first | rw [c144b0] | (simp only [i64_w,i32_w]; rw [c144b0]) | skip)
                have H' := Aside0.mk H
                clear H
                have hnb155 := NB414_367.out
                have hnc155 := NB367_414.out
                have hnb156 := NB414_379.out
                have hnc156 := NB379_414.out
                have hnb157 := NB414_384.out
                have hnc157 := NB384_414.out
                have hnb158 := NB414_391.out
                have hnc158 := NB391_414.out
                have hcz159_0 : w135.cell? ⟨gb414,0,none⟩ = some (.slice none 0 0) := (blk_cell BK414.out 0).trans rfl
                have hcz159_1 : w135.cell? ⟨gb414,1,none⟩ = some (.int .i64 0) := (blk_cell BK414.out 1).trans rfl
                have hfz159_0 := blk_frozen BK414.out 0
                have hfz159_1 := blk_frozen BK414.out 1
                have hnb160 := NB379_367.out
                have hnc160 := NB367_379.out
                have hnb161 := NB379_384.out
                have hnc161 := NB384_379.out
                have hnb162 := NB379_391.out
                have hnc162 := NB391_379.out
                have hcz163_0 : w135.cell? ⟨gb379,0,none⟩ = some (.slice Ao27 t373.length co27) := (blk_cell BK379.out 0).trans rfl
                have hcz163_1 : w135.cell? ⟨gb379,1,none⟩ = some (.int .i64 t376) := (blk_cell BK379.out 1).trans rfl
                have hfz163_0 := blk_frozen BK379.out 0
                have hfz163_1 := blk_frozen BK379.out 1
                go_wp2_with (first | ((with_reducible refine gate_callee (f:=11) rfl ?_); refine goesL_ (some 118) rfl rfl Try.func11 (by kernel_rfl) rfl #[.agg #[.slice Ao136 t408.length co136,.int .i64 t411],.agg #[.slice Ao27 t373.length co27,.int .i64 t376]] rfl mA ?_; (with_reducible refine (laws_eqStore.calls kj75 _ _ t408 t411 _ _ t373 t376 true _ ?side1 ?side2 ?side3 ?side4 A142.out).mono ?_); (case side1 => refine (Kd.R_reads' (e:=71) (base := w.heap.size) (ok := fun k_ => ((((True ∧ some k_ ≠ (.slice Ao27 t373.length co27 : Value).ownBlock) ∧ some k_ ≠ (.slice Ao33 t399.length co33 : Value).ownBlock) ∧ some k_ ≠ (.slice Ao39 t385.length co39 : Value).ownBlock) ∧ some k_ ≠ (.slice Ao133 t404.length co133 : Value).ownBlock)) (n:=t408.length) (c:=co136) ?_).2.2; exact (by (with_reducible repeat (first | apply Kd.R_alloc | apply Kd.R_drewN | apply Kd.R_drew)); exact (Kd.R_mono (Kd.R_far (p:=⟨gb414,1,none⟩) (Kd.R_far (p:=⟨gb414,0,none⟩) (Kd.R_types HO410.out BK414.out (by decide)) (fun _ hk => hk.2) (.slice Ao136 t408.length co136)) (fun _ hk => hk.2) (.int .i64 t411)) (fun _ h_ => h_.1)))); (case side2 => exact (Kd.R_reads' HO410.out).2.1); (case side3 => refine (Kd.R_reads' (e:=71) (base := w.heap.size) (ok := fun k_ => (((some k_ ≠ (.slice Ao33 t399.length co33 : Value).ownBlock ∧ some k_ ≠ (.slice Ao39 t385.length co39 : Value).ownBlock) ∧ some k_ ≠ (.slice Ao133 t404.length co133 : Value).ownBlock) ∧ some k_ ≠ (.slice Ao136 t408.length co136 : Value).ownBlock)) (n:=t373.length) (c:=co27) ?_).2.2; exact (by (with_reducible repeat (first | apply Kd.R_alloc | apply Kd.R_drewN | apply Kd.R_drew)); exact (Kd.R_mono (Kd.R_far (p:=⟨gb414,1,none⟩) (Kd.R_far (p:=⟨gb414,0,none⟩) (Kd.R_types HO_380000.out BK414.out (by decide)) (fun _ hk => hk.2) (.slice Ao136 t408.length co136)) (fun _ hk => hk.2) (.int .i64 t411)) (fun _ h_ => h_.1)))); (case side4 => exact (Kd.R_reads' HO_380000.out).2.1); rintro e w164 ⟨rfl,hb⟩; refine ⟨_,rfl,?_⟩; have n0_ := Aside0.mk (Kd.R_below (by (with_reducible repeat (first | apply Kd.R_alloc | apply Kd.R_drewN | apply Kd.R_drew)); exact (Kd.R_mono (Kd.R_far (p:=⟨gb414,1,none⟩) (Kd.R_far (p:=⟨gb414,0,none⟩) (Kd.R_types HO_380000.out BK414.out (by decide)) (fun _ hk => hk.2) (.slice Ao136 t408.length co136)) (fun _ hk => hk.2) (.int .i64 t411)) (fun _ h_ => h_.1))) hb); have n1_ := Aside0.mk (Kd.R_below (by (with_reducible repeat (first | apply Kd.R_alloc | apply Kd.R_drewN | apply Kd.R_drew)); exact (Kd.R_mono (Kd.R_far (p:=⟨gb414,1,none⟩) (Kd.R_far (p:=⟨gb414,0,none⟩) (Kd.R_types HO_385000.out BK414.out (by decide)) (fun _ hk => hk.2) (.slice Ao136 t408.length co136)) (fun _ hk => hk.2) (.int .i64 t411)) (fun _ h_ => h_.1))) hb); have n2_ := Aside0.mk (Kd.R_below (by (with_reducible repeat (first | apply Kd.R_alloc | apply Kd.R_drewN | apply Kd.R_drew)); exact (Kd.R_mono (Kd.R_far (p:=⟨gb414,1,none⟩) (Kd.R_far (p:=⟨gb414,0,none⟩) (Kd.R_types HO_392000.out BK414.out (by decide)) (fun _ hk => hk.2) (.slice Ao136 t408.length co136)) (fun _ hk => hk.2) (.int .i64 t411)) (fun _ h_ => h_.1))) hb); have n3_ := Aside0.mk (Kd.R_below (by (with_reducible repeat (first | apply Kd.R_alloc | apply Kd.R_drewN | apply Kd.R_drew)); exact (Kd.R_mono (Kd.R_far (p:=⟨gb414,1,none⟩) (Kd.R_far (p:=⟨gb414,0,none⟩) (Kd.R_types HO406.out BK414.out (by decide)) (fun _ hk => hk.2) (.slice Ao136 t408.length co136)) (fun _ hk => hk.2) (.int .i64 t411)) (fun _ h_ => h_.1))) hb); have n4_ := Aside0.mk (Kd.R_below (by (with_reducible repeat (first | apply Kd.R_alloc | apply Kd.R_drewN | apply Kd.R_drew)); exact (Kd.R_mono (Kd.R_far (p:=⟨gb414,1,none⟩) (Kd.R_far (p:=⟨gb414,0,none⟩) (Kd.R_types HO410.out BK414.out (by decide)) (fun _ hk => hk.2) (.slice Ao136 t408.length co136)) (fun _ hk => hk.2) (.int .i64 t411)) (fun _ h_ => h_.1))) hb); have n5_ := Aside0.mk (blk_below (g:=gb367) (o:=.cells #[.slice A0_0 l0_0.length c0_0,.int .i64 a0_1] 24 (0,0)) (kF BK367.out) hb); have n6_ := Aside0.mk (blk_below (g:=gb379) (o:=.cells #[.slice Ao27 t373.length co27,.int .i64 t376] 28 (0,0)) (kF BK379.out) hb); have n7_ := Aside0.mk (blk_below (g:=gb384) (o:=.cells #[.slice Ao33 t399.length co33,.int .i64 t383] 28 (0,0)) (kF BK384.out) hb); have n8_ := Aside0.mk (blk_below (g:=gb391) (o:=.cells #[.slice Ao39 t385.length co39,.int .i64 t388] 28 (0,0)) (kF BK391.out) hb); have n9_ := Aside0.mk (blk_below (g:=gb414) (o:=.cells #[.slice Ao136 t408.length co136,.int .i64 t411] 28 (0,0)) (by (with_reducible repeat (first | refine blk_drewN ?_ _ | refine blk_drew ?_ | refine blk_alloc ?_ _)); refine blk_put (cs := #[.slice Ao136 t408.length co136,.int .i64 0]) ?_ 1 _ rfl; (with_reducible repeat (first | refine blk_drewN ?_ _ | refine blk_drew ?_ | refine blk_alloc ?_ _)); refine blk_put (cs := #[.slice none 0 0,.int .i64 0]) ?_ 0 _ rfl; (with_reducible repeat (first | refine blk_drewN ?_ _ | refine blk_drew ?_ | refine blk_alloc ?_ _)); exact BK414.out) hb); have n10_ := Aside0.mk (below_step bA hb); clear HO_380000; clear HO_385000; clear HO_392000; clear HO406; clear HO410; clear BK367; clear BK379; clear BK384; clear BK391; clear BK414; clear HB; have HO_380000 := n0_; have HO_385000 := n1_; have HO_392000 := n2_; have HO406 := n3_; have HO410 := n4_; have BK367 := n5_; have BK379 := n6_; have BK384 := n7_; have BK391 := n8_; have BK414 := n9_; have HB := n10_; clear n0_ n1_ n2_ n3_ n4_ n5_ n6_ n7_ n8_ n9_ n10_; (try clear hb); (try clear hb2); (try clear hk); (try clear hi)))
                go_meet
                case rel => exact ⟨_,(true),(by first | rfl | (simp; done) | (simp [*]; done)),H',⟨by have := HJ17.out; have := HJ75.out; first | omega | exact Nat.le_refl _⟩,⟨by (try simp only [hl385000_75]); (with_reducible repeat (first | apply Kd.R_alloc | apply Kd.R_drewN | apply Kd.R_drew)); exact Kd.R_mono HO_380000.out (fun _ hk => ⟨hk.1.1.1,⟨hk.1.1.2,hk.2⟩⟩)⟩,⟨by (try simp only [hl385000_75]); (with_reducible repeat (first | apply Kd.R_alloc | apply Kd.R_drewN | apply Kd.R_drew)); exact Kd.R_mono HO_385000.out (fun _ hk => ⟨hk.1.1.1,⟨hk.1.1.2,hk.2⟩⟩)⟩,⟨by (try simp only [hl385000_75]); (with_reducible repeat (first | apply Kd.R_alloc | apply Kd.R_drewN | apply Kd.R_drew)); exact Kd.R_mono HO_392000.out (fun _ hk => ⟨hk.1.1.1,⟨hk.1.1.2,hk.2⟩⟩)⟩,⟨by (try simp only [hl385000_75]); (with_reducible repeat (first | apply Kd.R_alloc | apply Kd.R_drewN | apply Kd.R_drew)); exact Kd.R_mono HO410.out (fun _ hk => ⟨hk.1.1.1.2,⟨hk.1.1.2,hk.1.2⟩⟩)⟩,⟨by (try simp only [hl385000_75]); (with_reducible repeat (first | refine blk_drewN ?_ _ | refine blk_drew ?_ | refine blk_alloc ?_ _)); exact BK367.out⟩,⟨by (try simp only [hl385000_75]); (with_reducible repeat (first | refine blk_drewN ?_ _ | refine blk_drew ?_ | refine blk_alloc ?_ _)); exact BK379.out⟩,⟨by (try simp only [hl385000_75]); (with_reducible repeat (first | refine blk_drewN ?_ _ | refine blk_drew ?_ | refine blk_alloc ?_ _)); exact BK384.out⟩,⟨by (try simp only [hl385000_75]); (with_reducible repeat (first | refine blk_drewN ?_ _ | refine blk_drew ?_ | refine blk_alloc ?_ _)); exact BK391.out⟩,⟨by (try simp only [hl385000_75]); (with_reducible repeat (first | refine blk_drewN ?_ _ | refine blk_drew ?_ | refine blk_alloc ?_ _)); exact BK414.out⟩,⟨bA⟩⟩
              ·replace c143 := Bool.eq_false_iff.mpr c143
               subst c143
               rw [if_neg (show ¬ (false = true) by decide)] at H
               have H' := Aside0.mk H
               clear H
               have hnb165 := NB414_367.out
               have hnc165 := NB367_414.out
               have hnb166 := NB414_379.out
               have hnc166 := NB379_414.out
               have hnb167 := NB414_384.out
               have hnc167 := NB384_414.out
               have hnb168 := NB414_391.out
               have hnc168 := NB391_414.out
               have hcz169_0 : w135.cell? ⟨gb414,0,none⟩ = some (.slice none 0 0) := (blk_cell BK414.out 0).trans rfl
               have hcz169_1 : w135.cell? ⟨gb414,1,none⟩ = some (.int .i64 0) := (blk_cell BK414.out 1).trans rfl
               have hfz169_0 := blk_frozen BK414.out 0
               have hfz169_1 := blk_frozen BK414.out 1
               have hnb170 := NB379_367.out
               have hnc170 := NB367_379.out
               have hnb171 := NB379_384.out
               have hnc171 := NB384_379.out
               have hnb172 := NB379_391.out
               have hnc172 := NB391_379.out
               have hcz173_0 : w135.cell? ⟨gb379,0,none⟩ = some (.slice Ao27 t373.length co27) := (blk_cell BK379.out 0).trans rfl
               have hcz173_1 : w135.cell? ⟨gb379,1,none⟩ = some (.int .i64 t376) := (blk_cell BK379.out 1).trans rfl
               have hfz173_0 := blk_frozen BK379.out 0
               have hfz173_1 := blk_frozen BK379.out 1
               go_wp2_with (first | ((with_reducible refine gate_callee (f:=11) rfl ?_); refine goesL_ (some 118) rfl rfl Try.func11 (by kernel_rfl) rfl #[.agg #[.slice Ao136 t408.length co136,.int .i64 t411],.agg #[.slice Ao27 t373.length co27,.int .i64 t376]] rfl mA ?_; (with_reducible refine (laws_eqStore.calls kj75 _ _ t408 t411 _ _ t373 t376 false _ ?side1 ?side2 ?side3 ?side4 A142.out).mono ?_); (case side1 => refine (Kd.R_reads' (e:=71) (base := w.heap.size) (ok := fun k_ => ((((True ∧ some k_ ≠ (.slice Ao27 t373.length co27 : Value).ownBlock) ∧ some k_ ≠ (.slice Ao33 t399.length co33 : Value).ownBlock) ∧ some k_ ≠ (.slice Ao39 t385.length co39 : Value).ownBlock) ∧ some k_ ≠ (.slice Ao133 t404.length co133 : Value).ownBlock)) (n:=t408.length) (c:=co136) ?_).2.2; exact (by (with_reducible repeat (first | apply Kd.R_alloc | apply Kd.R_drewN | apply Kd.R_drew)); exact (Kd.R_mono (Kd.R_far (p:=⟨gb414,1,none⟩) (Kd.R_far (p:=⟨gb414,0,none⟩) (Kd.R_types HO410.out BK414.out (by decide)) (fun _ hk => hk.2) (.slice Ao136 t408.length co136)) (fun _ hk => hk.2) (.int .i64 t411)) (fun _ h_ => h_.1)))); (case side2 => exact (Kd.R_reads' HO410.out).2.1); (case side3 => refine (Kd.R_reads' (e:=71) (base := w.heap.size) (ok := fun k_ => (((some k_ ≠ (.slice Ao33 t399.length co33 : Value).ownBlock ∧ some k_ ≠ (.slice Ao39 t385.length co39 : Value).ownBlock) ∧ some k_ ≠ (.slice Ao133 t404.length co133 : Value).ownBlock) ∧ some k_ ≠ (.slice Ao136 t408.length co136 : Value).ownBlock)) (n:=t373.length) (c:=co27) ?_).2.2; exact (by (with_reducible repeat (first | apply Kd.R_alloc | apply Kd.R_drewN | apply Kd.R_drew)); exact (Kd.R_mono (Kd.R_far (p:=⟨gb414,1,none⟩) (Kd.R_far (p:=⟨gb414,0,none⟩) (Kd.R_types HO_380000.out BK414.out (by decide)) (fun _ hk => hk.2) (.slice Ao136 t408.length co136)) (fun _ hk => hk.2) (.int .i64 t411)) (fun _ h_ => h_.1)))); (case side4 => exact (Kd.R_reads' HO_380000.out).2.1); rintro e w174 ⟨rfl,hb⟩; refine ⟨_,rfl,?_⟩; have n0_ := Aside0.mk (Kd.R_below (by (with_reducible repeat (first | apply Kd.R_alloc | apply Kd.R_drewN | apply Kd.R_drew)); exact (Kd.R_mono (Kd.R_far (p:=⟨gb414,1,none⟩) (Kd.R_far (p:=⟨gb414,0,none⟩) (Kd.R_types HO_380000.out BK414.out (by decide)) (fun _ hk => hk.2) (.slice Ao136 t408.length co136)) (fun _ hk => hk.2) (.int .i64 t411)) (fun _ h_ => h_.1))) hb); have n1_ := Aside0.mk (Kd.R_below (by (with_reducible repeat (first | apply Kd.R_alloc | apply Kd.R_drewN | apply Kd.R_drew)); exact (Kd.R_mono (Kd.R_far (p:=⟨gb414,1,none⟩) (Kd.R_far (p:=⟨gb414,0,none⟩) (Kd.R_types HO_385000.out BK414.out (by decide)) (fun _ hk => hk.2) (.slice Ao136 t408.length co136)) (fun _ hk => hk.2) (.int .i64 t411)) (fun _ h_ => h_.1))) hb); have n2_ := Aside0.mk (Kd.R_below (by (with_reducible repeat (first | apply Kd.R_alloc | apply Kd.R_drewN | apply Kd.R_drew)); exact (Kd.R_mono (Kd.R_far (p:=⟨gb414,1,none⟩) (Kd.R_far (p:=⟨gb414,0,none⟩) (Kd.R_types HO_392000.out BK414.out (by decide)) (fun _ hk => hk.2) (.slice Ao136 t408.length co136)) (fun _ hk => hk.2) (.int .i64 t411)) (fun _ h_ => h_.1))) hb); have n3_ := Aside0.mk (Kd.R_below (by (with_reducible repeat (first | apply Kd.R_alloc | apply Kd.R_drewN | apply Kd.R_drew)); exact (Kd.R_mono (Kd.R_far (p:=⟨gb414,1,none⟩) (Kd.R_far (p:=⟨gb414,0,none⟩) (Kd.R_types HO406.out BK414.out (by decide)) (fun _ hk => hk.2) (.slice Ao136 t408.length co136)) (fun _ hk => hk.2) (.int .i64 t411)) (fun _ h_ => h_.1))) hb); have n4_ := Aside0.mk (Kd.R_below (by (with_reducible repeat (first | apply Kd.R_alloc | apply Kd.R_drewN | apply Kd.R_drew)); exact (Kd.R_mono (Kd.R_far (p:=⟨gb414,1,none⟩) (Kd.R_far (p:=⟨gb414,0,none⟩) (Kd.R_types HO410.out BK414.out (by decide)) (fun _ hk => hk.2) (.slice Ao136 t408.length co136)) (fun _ hk => hk.2) (.int .i64 t411)) (fun _ h_ => h_.1))) hb); have n5_ := Aside0.mk (blk_below (g:=gb367) (o:=.cells #[.slice A0_0 l0_0.length c0_0,.int .i64 a0_1] 24 (0,0)) (kF BK367.out) hb); have n6_ := Aside0.mk (blk_below (g:=gb379) (o:=.cells #[.slice Ao27 t373.length co27,.int .i64 t376] 28 (0,0)) (kF BK379.out) hb); have n7_ := Aside0.mk (blk_below (g:=gb384) (o:=.cells #[.slice Ao33 t399.length co33,.int .i64 t383] 28 (0,0)) (kF BK384.out) hb); have n8_ := Aside0.mk (blk_below (g:=gb391) (o:=.cells #[.slice Ao39 t385.length co39,.int .i64 t388] 28 (0,0)) (kF BK391.out) hb); have n9_ := Aside0.mk (blk_below (g:=gb414) (o:=.cells #[.slice Ao136 t408.length co136,.int .i64 t411] 28 (0,0)) (by (with_reducible repeat (first | refine blk_drewN ?_ _ | refine blk_drew ?_ | refine blk_alloc ?_ _)); refine blk_put (cs := #[.slice Ao136 t408.length co136,.int .i64 0]) ?_ 1 _ rfl; (with_reducible repeat (first | refine blk_drewN ?_ _ | refine blk_drew ?_ | refine blk_alloc ?_ _)); refine blk_put (cs := #[.slice none 0 0,.int .i64 0]) ?_ 0 _ rfl; (with_reducible repeat (first | refine blk_drewN ?_ _ | refine blk_drew ?_ | refine blk_alloc ?_ _)); exact BK414.out) hb); have n10_ := Aside0.mk (below_step bA hb); clear HO_380000; clear HO_385000; clear HO_392000; clear HO406; clear HO410; clear BK367; clear BK379; clear BK384; clear BK391; clear BK414; clear HB; have HO_380000 := n0_; have HO_385000 := n1_; have HO_392000 := n2_; have HO406 := n3_; have HO410 := n4_; have BK367 := n5_; have BK379 := n6_; have BK384 := n7_; have BK391 := n8_; have BK414 := n9_; have HB := n10_; clear n0_ n1_ n2_ n3_ n4_ n5_ n6_ n7_ n8_ n9_ n10_; (try clear hb); (try clear hb2); (try clear hk); (try clear hi)))
               go_meet
               case rel => exact ⟨_,(true),(by first | rfl | (simp; done) | (simp [*]; done)),H',⟨by have := HJ17.out; have := HJ75.out; first | omega | exact Nat.le_refl _⟩,⟨by (try simp only [hl385000_75]); (with_reducible repeat (first | apply Kd.R_alloc | apply Kd.R_drewN | apply Kd.R_drew)); exact Kd.R_mono HO_380000.out (fun _ hk => ⟨hk.1.1.1,⟨hk.1.1.2,hk.2⟩⟩)⟩,⟨by (try simp only [hl385000_75]); (with_reducible repeat (first | apply Kd.R_alloc | apply Kd.R_drewN | apply Kd.R_drew)); exact Kd.R_mono HO_385000.out (fun _ hk => ⟨hk.1.1.1,⟨hk.1.1.2,hk.2⟩⟩)⟩,⟨by (try simp only [hl385000_75]); (with_reducible repeat (first | apply Kd.R_alloc | apply Kd.R_drewN | apply Kd.R_drew)); exact Kd.R_mono HO_392000.out (fun _ hk => ⟨hk.1.1.1,⟨hk.1.1.2,hk.2⟩⟩)⟩,⟨by (try simp only [hl385000_75]); (with_reducible repeat (first | apply Kd.R_alloc | apply Kd.R_drewN | apply Kd.R_drew)); exact Kd.R_mono HO410.out (fun _ hk => ⟨hk.1.1.1.2,⟨hk.1.1.2,hk.1.2⟩⟩)⟩,⟨by (try simp only [hl385000_75]); (with_reducible repeat (first | refine blk_drewN ?_ _ | refine blk_drew ?_ | refine blk_alloc ?_ _)); exact BK367.out⟩,⟨by (try simp only [hl385000_75]); (with_reducible repeat (first | refine blk_drewN ?_ _ | refine blk_drew ?_ | refine blk_alloc ?_ _)); exact BK379.out⟩,⟨by (try simp only [hl385000_75]); (with_reducible repeat (first | refine blk_drewN ?_ _ | refine blk_drew ?_ | refine blk_alloc ?_ _)); exact BK384.out⟩,⟨by (try simp only [hl385000_75]); (with_reducible repeat (first | refine blk_drewN ?_ _ | refine blk_drew ?_ | refine blk_alloc ?_ _)); exact BK391.out⟩,⟨by (try simp only [hl385000_75]); (with_reducible repeat (first | refine blk_drewN ?_ _ | refine blk_drew ?_ | refine blk_alloc ?_ _)); exact BK414.out⟩,⟨bA⟩⟩
             case rest =>
              clear HC121
              try clear c1
              try clear c2
              try clear p2
              try clear c3
              try clear c4
              try clear c5
              try clear c5b0
              try clear c5b1
              try clear c6
              try clear c7
              try clear c7b0
              try clear c7b1
              try clear c8
              try clear c9
              try clear c10
              try clear c10b0
              try clear c11
              try clear c12
              try clear c13
              try clear c14
              try clear c15
              try clear c16
              try clear c17
              try clear c21
              try clear c22
              try clear c28
              try clear c34
              try clear c35
              try clear c40
              try clear c41
              try clear c42
              try clear c45
              try clear c46
              try clear c46b0
              try clear c46b1
              try clear c47
              try clear c48
              try clear c49
              try clear c51
              try clear c52
              try clear c55
              try clear c56
              try clear c57
              try clear c59
              try clear c60
              try clear c63
              try clear c64
              try clear c65
              try clear c67
              try clear c68
              try clear c71
              try clear c74
              try clear c81
              try clear c82
              try clear c83
              try clear c86
              try clear c86b0
              try clear c88
              try clear c89
              try clear c89b0
              try clear c89b1
              try clear c90
              try clear c91
              try clear c92
              try clear c94
              try clear c95
              try clear c98
              try clear c99
              try clear c100
              try clear c102
              try clear c103
              try clear c106
              try clear c107
              try clear c108
              try clear c110
              try clear c111
              try clear c114
              try clear c117
              try clear c117b0
              try clear c118
              try clear c118b0
              try clear c118b1
              try clear c122
              try clear c123
              try clear c124
              try clear c129
              try clear c130
              try clear c137
              try clear c138
              try clear c139
              try clear c140
              try clear c143
              try clear c144
              try clear c144b0
              try clear c144b1
              try clear c145
              try clear c146
              try clear c147
              try clear c148
              try clear c150
              try clear c151
              try clear c152
              try clear c155
              try clear c156
              try clear c157
              try clear c158
              try clear c160
              try clear c161
              try clear c162
              try clear c165
              try clear c166
              try clear c167
              try clear c168
              try clear c170
              try clear c171
              try clear c172
              try clear hcz101_0
              try clear hcz101_1
              try clear hcz104_0
              try clear hcz104_1
              try clear hcz109_0
              try clear hcz109_1
              try clear hcz112_0
              try clear hcz112_1
              try clear hcz125_0
              try clear hcz125_1
              try clear hcz127_0
              try clear hcz127_1
              try clear hcz12_0
              try clear hcz12_1
              try clear hcz131_0
              try clear hcz131_1
              try clear hcz141_0
              try clear hcz141_1
              try clear hcz149_0
              try clear hcz149_1
              try clear hcz153_0
              try clear hcz153_1
              try clear hcz159_0
              try clear hcz159_1
              try clear hcz163_0
              try clear hcz163_1
              try clear hcz169_0
              try clear hcz169_1
              try clear hcz173_0
              try clear hcz173_1
              try clear hcz20_0
              try clear hcz20_1
              try clear hcz22_0
              try clear hcz22_1
              try clear hcz29_0
              try clear hcz29_1
              try clear hcz30_0
              try clear hcz30_1
              try clear hcz36_0
              try clear hcz36_1
              try clear hcz43_0
              try clear hcz43_1
              try clear hcz50_0
              try clear hcz50_1
              try clear hcz53_0
              try clear hcz53_1
              try clear hcz58_0
              try clear hcz58_1
              try clear hcz61_0
              try clear hcz61_1
              try clear hcz66_0
              try clear hcz66_1
              try clear hcz69_0
              try clear hcz69_1
              try clear hcz84_0
              try clear hcz84_1
              try clear hcz93_0
              try clear hcz93_1
              try clear hcz96_0
              try clear hcz96_1
              try clear hfz101_0
              try clear hfz101_1
              try clear hfz104_0
              try clear hfz104_1
              try clear hfz109_0
              try clear hfz109_1
              try clear hfz112_0
              try clear hfz112_1
              try clear hfz125_0
              try clear hfz125_1
              try clear hfz127_0
              try clear hfz127_1
              try clear hfz12_0
              try clear hfz12_1
              try clear hfz131_0
              try clear hfz131_1
              try clear hfz141_0
              try clear hfz141_1
              try clear hfz149_0
              try clear hfz149_1
              try clear hfz153_0
              try clear hfz153_1
              try clear hfz159_0
              try clear hfz159_1
              try clear hfz163_0
              try clear hfz163_1
              try clear hfz169_0
              try clear hfz169_1
              try clear hfz173_0
              try clear hfz173_1
              try clear hfz20_0
              try clear hfz20_1
              try clear hfz22_0
              try clear hfz22_1
              try clear hfz29_0
              try clear hfz29_1
              try clear hfz30_0
              try clear hfz30_1
              try clear hfz36_0
              try clear hfz36_1
              try clear hfz43_0
              try clear hfz43_1
              try clear hfz50_0
              try clear hfz50_1
              try clear hfz53_0
              try clear hfz53_1
              try clear hfz58_0
              try clear hfz58_1
              try clear hfz61_0
              try clear hfz61_1
              try clear hfz66_0
              try clear hfz66_1
              try clear hfz69_0
              try clear hfz69_1
              try clear hfz84_0
              try clear hfz84_1
              try clear hfz93_0
              try clear hfz93_1
              try clear hfz96_0
              try clear hfz96_1
              try clear p2
              obtain ⟨kq,x129_120,rfl,HA,HJ120,HO_380000,HO_385000,HO_392000,HO_415000,BK367,BK379,BK384,BK391,BK414,HB⟩ := hcut
              have hl392000_120 := (Kd.R_reads' HO_392000.out).1
              rw [hl392000_120] at HO_392000
              (try simp only [hl392000_120])
              (try simp only [hl392000_120] at BK367)
              (try simp only [hl392000_120] at BK379)
              (try simp only [hl392000_120] at BK384)
              (try simp only [hl392000_120] at BK391)
              (try simp only [hl392000_120] at BK414)
              (try simp only [hl392000_120] at HO_380000)
              (try simp only [hl392000_120] at HO_385000)
              (try simp only [hl392000_120] at HO_415000)
              cases kq with
              | zero => exact absurd HA.out (by simp [laws_FnExactPutVersion.j2])
              | succ kj120 =>
               have H := HA.out
               clear HA
               simp only [laws_FnExactPutVersion.j2] at H
               by_cases c175 : x129_120 = true
               ·subst c175
                rw [if_pos rfl] at H
                exact absurd H (by simp)
               ·replace c175 := Bool.eq_false_iff.mpr c175
                subst c175
                rw [if_neg (show ¬ (false = true) by decide)] at H
                replace H := Option.bind_eq_some_iff.mp H
                obtain ⟨t416,A1760,H⟩ := H
                try dsimp only at H
                have A176 := Aside0.mk A1760
                clear A1760
                by_cases c177 : t416 < 0
                ·rw [if_pos c177] at H
                 exact absurd H (by simp)
                ·rw [if_neg c177] at H
                 have c177b0 : decide (t416 < 0) = false := decide_eq_false c177
                 clear c177
                 by_cases c178 : t416 = t401
                 ·rw [if_pos c178] at H
                  have c178b0 : (t416 == t401) = true := beq_iff_eq.mpr c178
                  have c178b1 : (t416 != t401) = false := bne_eq_false_iff_eq.mpr c178
                  clear c178
                  obtain rfl := Option.some.inj H
                  have hnb179 := NB391_367.out
                  have hnc179 := NB367_391.out
                  have hnb180 := NB391_379.out
                  have hnc180 := NB379_391.out
                  have hnb181 := NB391_384.out
                  have hnc181 := NB384_391.out
                  have hnb182 := NB391_414.out
                  have hnc182 := NB414_391.out
                  have hcz183_0 : wc.cell? ⟨gb391,0,none⟩ = some (.slice Ao39 t402.length co39) := (blk_cell BK391.out 0).trans rfl
                  have hcz183_1 : wc.cell? ⟨gb391,1,none⟩ = some (.int .i64 t388) := (blk_cell BK391.out 1).trans rfl
                  have hfz183_0 := blk_frozen BK391.out 0
                  have hfz183_1 := blk_frozen BK391.out 1
                  go_wp2_with (first | ((with_reducible refine gate_callee (f:=13) rfl ?_); refine goesL_ (some 132) rfl rfl Try.func13 (by kernel_rfl) rfl #[.agg #[.slice Ao39 t402.length co39,.int .i64 t388],.int .i64 1] rfl mA ?_; (with_reducible refine (laws_heldStore.calls kj120 _ _ t402 t388 1 t416 _ ?side1 ?side2 A176.out).mono ?_); (case side1 => repeat (first | exact (Kd.R_reads' HO_392000.out).2.2 | (with_reducible refine Kd.C_alloc ?_ _) | (with_reducible refine Kd.C_drewN ?_ _) | (with_reducible refine Kd.C_drew ?_))); (case side2 => exact (Kd.R_reads' HO_392000.out).2.1); rintro e w184 ⟨rfl,hb⟩; refine ⟨_,rfl,?_⟩; have n0_ := Aside0.mk (Kd.R_below (rA HO_380000.out) hb); have n1_ := Aside0.mk (Kd.R_below (rA HO_385000.out) hb); have n2_ := Aside0.mk (Kd.R_below (rA HO_392000.out) hb); have n3_ := Aside0.mk (Kd.R_below (rA HO_415000.out) hb); have n4_ := Aside0.mk (blk_below (g:=gb367) (o:=.cells #[.slice A0_0 l0_0.length c0_0,.int .i64 a0_1] 24 (0,0)) (kA BK367.out) hb); have n5_ := Aside0.mk (blk_below (g:=gb379) (o:=.cells #[.slice Ao27 t373.length co27,.int .i64 t376] 28 (0,0)) (kA BK379.out) hb); have n6_ := Aside0.mk (blk_below (g:=gb384) (o:=.cells #[.slice Ao33 t399.length co33,.int .i64 t383] 28 (0,0)) (kA BK384.out) hb); have n7_ := Aside0.mk (blk_below (g:=gb391) (o:=.cells #[.slice Ao39 t402.length co39,.int .i64 t388] 28 (0,0)) (kA BK391.out) hb); have n8_ := Aside0.mk (blk_below (g:=gb414) (o:=.cells #[.slice Ao136 t408.length co136,.int .i64 t411] 28 (0,0)) (kA BK414.out) hb); have n9_ := Aside0.mk (below_step bA hb); clear HO_380000; clear HO_385000; clear HO_392000; clear HO_415000; clear BK367; clear BK379; clear BK384; clear BK391; clear BK414; clear HB; have HO_380000 := n0_; have HO_385000 := n1_; have HO_392000 := n2_; have HO_415000 := n3_; have BK367 := n4_; have BK379 := n5_; have BK384 := n6_; have BK391 := n7_; have BK414 := n8_; have HB := n9_; clear n0_ n1_ n2_ n3_ n4_ n5_ n6_ n7_ n8_ n9_; (try clear hb); (try clear hb2); (try clear hk); (try clear hi)))
                  go_ret
                  exact ⟨by first | rfl | (simp [errW_none,errW_some] <;> rfl) | (simp [*,errW_none,errW_some] <;> rfl),bA⟩
                 ·rw [if_neg c178] at H
                  exact absurd H (by simp)
            ·rw [if_neg c118] at H
             exact absurd H (by simp)
       ·replace c74 := Bool.eq_false_iff.mpr c74
        subst c74
        rw [if_neg (show ¬ (false = true) by decide)] at H
        exact absurd H (by simp)

end Go.Proofs.Ytbodkbaniebfaaa.XFnExactPutVersion
