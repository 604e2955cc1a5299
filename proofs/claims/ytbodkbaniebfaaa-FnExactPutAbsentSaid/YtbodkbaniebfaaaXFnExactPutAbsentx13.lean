-- Printed by this session's own program wip/tools/xprint.py, which widens the kit's print. Not trusted: Lean checks it.
import Derived.Test.YtbodkbaniebfaaaXFnExactPutAbsentx0
import Derived.Test.YtbodkbaniebfaaaXFnExactPutAbsentx1
import Derived.Test.YtbodkbaniebfaaaXFnExactPutAbsentx2
import Derived.Test.YtbodkbaniebfaaaXFnExactPutAbsentx3
import Derived.Test.YtbodkbaniebfaaaXFnExactPutAbsentx8
import Derived.Test.YtbodkbaniebfaaaXFnExactPutAbsentx12
namespace Go.Proofs.Ytbodkbaniebfaaa.XFnExactPutAbsent
open List (setIfInBounds_toArray set_cons_zero set_cons_succ)
open Go.RowKit Go.Proofs.YtbodkbaniebfaaaW.PrintWords Go.Proofs.YtbodkbaniebfaaaW.PrintLast Go.Proofs.YtbodkbaniebfaaaW.PrintMore
attribute [local go_sem] max2_int min2_int max_two min_two max_three min_three max_four min_four   -- for this text's walks alone
set_option linter.unusedVariables false
set_option linter.unusedSimpArgs false

/-! ### laws_FnExactPutAbsent: function 5 -/
mutual
def laws_FnExactPutAbsent.j0 : Nat → ByteArray → ByteArray → Int → Int → Int → Int → Bool → List (S70) → Int → List (S71) → Int → List (S71) → Int → List (S71) → Int → Option (Bool)
 | 0,_,_,_,_,_,_,_,_,_,_,_,_,_,_,_ => none
 | k + 1,x1,x2,x9,x10,x13,x14,x64,x360000,x360001,x372000,x372001,x377000,x377001,x384000,x384001 => if x64 = true then (none) else ((laws_toStore.f k x360000 x360001).bind fun bt385 => ((laws_eqStore.f k x377000 x377001 bt385.1 bt385.2).bind fun t389 => (if t389 = true then ((laws_markStore.f k x377000 x377001 1).bind fun bt390 => (if bt390.1 < 0 then (laws_FnExactPutAbsent.j1 k x1 x2 x9 x10 true x360000 x360001 x372000 x372001 x384000 x384001) else ((laws_eqStore.f k x384000 x384001 x372000 x372001).bind fun t392 => (if t392 = true then (if x13 = x9 then (laws_FnExactPutAbsent.j1 k x1 x2 x9 x10 (x14 != x10) x360000 x360001 x372000 x372001 x384000 x384001) else (laws_FnExactPutAbsent.j1 k x1 x2 x9 x10 true x360000 x360001 x372000 x372001 x384000 x384001)) else (laws_FnExactPutAbsent.j1 k x1 x2 x9 x10 true x360000 x360001 x372000 x372001 x384000 x384001))))) else (none))))
def laws_FnExactPutAbsent.j1 : Nat → ByteArray → ByteArray → Int → Int → Bool → List (S70) → Int → List (S71) → Int → List (S71) → Int → Option (Bool)
 | 0,_,_,_,_,_,_,_,_,_,_,_ => none
 | k + 1,x1,x2,x9,x10,x90,x360000,x360001,x372000,x372001,x384000,x384001 => if x90 = true then (none) else ((laws_markStore.f k x384000 x384001 1).bind fun bt393 => ((laws_heldStore.f k bt393.2 x384001 1).bind fun t395 => (if t395 < 0 then (none) else (if t395 = bt393.1 then ((laws_toStore.f k x360000 x360001).bind fun bt396 => ((impl_PutAbsent.f k bt396.1 bt396.2 x1 x2).bind fun bt400 => ((laws_eqStore.f k bt400.1 bt400.2.1 x372000 x372001).bind fun t407 => (if t407 = true then (if bt400.2.2.1 = x9 then (laws_FnExactPutAbsent.j2 k bt393.1 (bt400.2.2.2 != x10) bt393.2 x384001) else (laws_FnExactPutAbsent.j2 k bt393.1 true bt393.2 x384001)) else (laws_FnExactPutAbsent.j2 k bt393.1 true bt393.2 x384001))))) else (none)))))
def laws_FnExactPutAbsent.j2 : Nat → Int → Bool → List (S71) → Int → Option (Bool)
 | 0,_,_,_,_ => none
 | k + 1,x16,x124,x384000,x384001 => if x124 = true then (none) else ((laws_heldStore.f k x384000 x384001 1).bind fun t408 => (if t408 < 0 then (none) else (if t408 = x16 then (some true) else (none))))
end
def laws_FnExactPutAbsent.f (k : Nat) (l0_0 : List (S70)) (a0_1 : Int) (a1 : ByteArray) (a2 : ByteArray) : Option (Bool) := if (a1.size : Int) > 1048576 then (some true) else (if (a2.size : Int) > 1048576 then (some true) else ((laws_szStore.f k l0_0 a0_1 1048576).bind fun t360 => (if t360 < 0 then (some true) else ((laws_toStore.f k l0_0 a0_1).bind fun bt361 => ((spec_PutAbsent.f k bt361.1 bt361.2 a1 a2).bind fun bt365 => ((laws_toStore.f k l0_0 a0_1).bind fun bt372 => ((impl_PutAbsent.f k bt372.1 bt372.2 a1 a2).bind fun bt377 => ((laws_eqStore.f k bt377.1 bt377.2.1 bt365.1 bt365.2.1).bind fun t384 => (if t384 = true then (if bt377.2.2.1 = bt365.2.2.1 then (laws_FnExactPutAbsent.j0 k a1 a2 bt365.2.2.1 bt365.2.2.2 bt377.2.2.1 bt377.2.2.2 (bt377.2.2.2 != bt365.2.2.2) l0_0 a0_1 bt365.1 bt365.2.1 bt372.1 bt372.2 bt377.1 bt377.2.1) else (laws_FnExactPutAbsent.j0 k a1 a2 bt365.2.2.1 bt365.2.2.2 bt377.2.2.1 bt377.2.2.2 true l0_0 a0_1 bt365.1 bt365.2.1 bt372.1 bt372.2 bt377.1 bt377.2.1)) else (laws_FnExactPutAbsent.j0 k a1 a2 bt365.2.2.1 bt365.2.2.2 bt377.2.2.1 bt377.2.2.2 true l0_0 a0_1 bt365.1 bt365.2.1 bt372.1 bt372.2 bt377.1 bt377.2.1))))))))))
theorem laws_FnExactPutAbsent.mono_l : ∀ k,(∀ y0 y1 y2 y3 y4 y5 y6 y7 y8 y9 y10 y11 y12 y13 y14,LeO (laws_FnExactPutAbsent.j0 k y0 y1 y2 y3 y4 y5 y6 y7 y8 y9 y10 y11 y12 y13 y14) (laws_FnExactPutAbsent.j0 (k + 1) y0 y1 y2 y3 y4 y5 y6 y7 y8 y9 y10 y11 y12 y13 y14)) ∧ (∀ y0 y1 y2 y3 y4 y5 y6 y7 y8 y9 y10,LeO (laws_FnExactPutAbsent.j1 k y0 y1 y2 y3 y4 y5 y6 y7 y8 y9 y10) (laws_FnExactPutAbsent.j1 (k + 1) y0 y1 y2 y3 y4 y5 y6 y7 y8 y9 y10)) ∧ (∀ y0 y1 y2 y3,LeO (laws_FnExactPutAbsent.j2 k y0 y1 y2 y3) (laws_FnExactPutAbsent.j2 (k + 1) y0 y1 y2 y3))
 | 0 => ⟨fun _ _ _ _ _ _ _ _ _ _ _ _ _ _ _ r h => by simp [laws_FnExactPutAbsent.j0] at h,fun _ _ _ _ _ _ _ _ _ _ _ r h => by simp [laws_FnExactPutAbsent.j1] at h,fun _ _ _ _ r h => by simp [laws_FnExactPutAbsent.j2] at h⟩
 | k + 1 => by
  obtain ⟨ih0,ih1,ih2⟩ := laws_FnExactPutAbsent.mono_l k
  refine ⟨?_,?_,?_⟩
  ·intro y0 y1 y2 y3 y4 y5 y6 y7 y8 y9 y10 y11 y12 y13 y14
   unfold laws_FnExactPutAbsent.j0
   repeat' first
   | (with_reducible exact ih0 _ _ _ _ _ _ _ _ _ _ _ _ _ _ _)
   | (with_reducible exact ih1 _ _ _ _ _ _ _ _ _ _ _)
   | (with_reducible exact ih2 _ _ _ _)
   | (with_reducible exact impl_PutAbsent.mono _ _ _ _ _)
   | (with_reducible exact laws_eqStore.mono _ _ _ _ _)
   | (with_reducible exact laws_heldStore.mono _ _ _ _)
   | (with_reducible exact laws_markStore.mono _ _ _ _)
   | (with_reducible exact laws_szStore.mono _ _ _ _)
   | (with_reducible exact laws_toStore.mono _ _ _)
   | (with_reducible exact spec_PutAbsent.mono _ _ _ _ _)
   | (with_reducible exact LeO.refl _)
   | (with_reducible exact LeO.none _)
   | (with_reducible refine LeO.ite ?_ ?_)
   | (with_reducible refine LeO.bind ?_ (fun _ => ?_))
   | exact ih0 _ _ _ _ _ _ _ _ _ _ _ _ _ _ _
   | exact ih1 _ _ _ _ _ _ _ _ _ _ _
   | exact ih2 _ _ _ _
   | exact impl_PutAbsent.mono _ _ _ _ _
   | exact laws_eqStore.mono _ _ _ _ _
   | exact laws_heldStore.mono _ _ _ _
   | exact laws_markStore.mono _ _ _ _
   | exact laws_szStore.mono _ _ _ _
   | exact laws_toStore.mono _ _ _
   | exact spec_PutAbsent.mono _ _ _ _ _
   | exact LeO.none _
   | refine LeO.ite ?_ ?_
   | refine LeO.bind ?_ (fun _ => ?_)
  ·intro y0 y1 y2 y3 y4 y5 y6 y7 y8 y9 y10
   unfold laws_FnExactPutAbsent.j1
   repeat' first
   | (with_reducible exact ih0 _ _ _ _ _ _ _ _ _ _ _ _ _ _ _)
   | (with_reducible exact ih1 _ _ _ _ _ _ _ _ _ _ _)
   | (with_reducible exact ih2 _ _ _ _)
   | (with_reducible exact impl_PutAbsent.mono _ _ _ _ _)
   | (with_reducible exact laws_eqStore.mono _ _ _ _ _)
   | (with_reducible exact laws_heldStore.mono _ _ _ _)
   | (with_reducible exact laws_markStore.mono _ _ _ _)
   | (with_reducible exact laws_szStore.mono _ _ _ _)
   | (with_reducible exact laws_toStore.mono _ _ _)
   | (with_reducible exact spec_PutAbsent.mono _ _ _ _ _)
   | (with_reducible exact LeO.refl _)
   | (with_reducible exact LeO.none _)
   | (with_reducible refine LeO.ite ?_ ?_)
   | (with_reducible refine LeO.bind ?_ (fun _ => ?_))
   | exact ih0 _ _ _ _ _ _ _ _ _ _ _ _ _ _ _
   | exact ih1 _ _ _ _ _ _ _ _ _ _ _
   | exact ih2 _ _ _ _
   | exact impl_PutAbsent.mono _ _ _ _ _
   | exact laws_eqStore.mono _ _ _ _ _
   | exact laws_heldStore.mono _ _ _ _
   | exact laws_markStore.mono _ _ _ _
   | exact laws_szStore.mono _ _ _ _
   | exact laws_toStore.mono _ _ _
   | exact spec_PutAbsent.mono _ _ _ _ _
   | exact LeO.none _
   | refine LeO.ite ?_ ?_
   | refine LeO.bind ?_ (fun _ => ?_)
  ·intro y0 y1 y2 y3
   unfold laws_FnExactPutAbsent.j2
   repeat' first
   | (with_reducible exact ih0 _ _ _ _ _ _ _ _ _ _ _ _ _ _ _)
   | (with_reducible exact ih1 _ _ _ _ _ _ _ _ _ _ _)
   | (with_reducible exact ih2 _ _ _ _)
   | (with_reducible exact impl_PutAbsent.mono _ _ _ _ _)
   | (with_reducible exact laws_eqStore.mono _ _ _ _ _)
   | (with_reducible exact laws_heldStore.mono _ _ _ _)
   | (with_reducible exact laws_markStore.mono _ _ _ _)
   | (with_reducible exact laws_szStore.mono _ _ _ _)
   | (with_reducible exact laws_toStore.mono _ _ _)
   | (with_reducible exact spec_PutAbsent.mono _ _ _ _ _)
   | (with_reducible exact LeO.refl _)
   | (with_reducible exact LeO.none _)
   | (with_reducible refine LeO.ite ?_ ?_)
   | (with_reducible refine LeO.bind ?_ (fun _ => ?_))
   | exact ih0 _ _ _ _ _ _ _ _ _ _ _ _ _ _ _
   | exact ih1 _ _ _ _ _ _ _ _ _ _ _
   | exact ih2 _ _ _ _
   | exact impl_PutAbsent.mono _ _ _ _ _
   | exact laws_eqStore.mono _ _ _ _ _
   | exact laws_heldStore.mono _ _ _ _
   | exact laws_markStore.mono _ _ _ _
   | exact laws_szStore.mono _ _ _ _
   | exact laws_toStore.mono _ _ _
   | exact spec_PutAbsent.mono _ _ _ _ _
   | exact LeO.none _
   | refine LeO.ite ?_ ?_
   | refine LeO.bind ?_ (fun _ => ?_)
theorem laws_FnExactPutAbsent.mono : ∀ a0 a1 a2 a3 k,LeO (laws_FnExactPutAbsent.f k a0 a1 a2 a3) (laws_FnExactPutAbsent.f (k + 1) a0 a1 a2 a3) := by
 intro a0 a1 a2 a3 k
 obtain ⟨ih0,ih1,ih2⟩ := laws_FnExactPutAbsent.mono_l k
 unfold laws_FnExactPutAbsent.f
 repeat' first
   | (with_reducible exact ih0 _ _ _ _ _ _ _ _ _ _ _ _ _ _ _)
   | (with_reducible exact ih1 _ _ _ _ _ _ _ _ _ _ _)
   | (with_reducible exact ih2 _ _ _ _)
   | (with_reducible exact impl_PutAbsent.mono _ _ _ _ _)
   | (with_reducible exact laws_eqStore.mono _ _ _ _ _)
   | (with_reducible exact laws_heldStore.mono _ _ _ _)
   | (with_reducible exact laws_markStore.mono _ _ _ _)
   | (with_reducible exact laws_szStore.mono _ _ _ _)
   | (with_reducible exact laws_toStore.mono _ _ _)
   | (with_reducible exact spec_PutAbsent.mono _ _ _ _ _)
   | (with_reducible exact LeO.refl _)
   | (with_reducible exact LeO.none _)
   | (with_reducible refine LeO.ite ?_ ?_)
   | (with_reducible refine LeO.bind ?_ (fun _ => ?_))
   | exact ih0 _ _ _ _ _ _ _ _ _ _ _ _ _ _ _
   | exact ih1 _ _ _ _ _ _ _ _ _ _ _
   | exact ih2 _ _ _ _
   | exact impl_PutAbsent.mono _ _ _ _ _
   | exact laws_eqStore.mono _ _ _ _ _
   | exact laws_heldStore.mono _ _ _ _
   | exact laws_markStore.mono _ _ _ _
   | exact laws_szStore.mono _ _ _ _
   | exact laws_toStore.mono _ _ _
   | exact spec_PutAbsent.mono _ _ _ _ _
   | exact LeO.none _
   | refine LeO.ite ?_ ?_
   | refine LeO.bind ?_ (fun _ => ?_)
set_option maxHeartbeats 8000000 in
set_option maxRecDepth 100000 in
theorem laws_FnExactPutAbsent.calls (k : Nat) (A0_0 : Option Addr) (c0_0 : Nat) (l0_0 : List (S70)) (a0_1 : Int) (a1 : ByteArray) (a2 : ByteArray) (r : Bool) (w : World) (hr0_0 : Kd.C k70 w A0_0 l0_0.length l0_0) (hc0_0 : l0_0.length ≤ c0_0) (h : laws_FnExactPutAbsent.f k l0_0 a0_1 a1 a2 = some r) :
  Calls Try.prog 5 #[.agg #[.slice A0_0 l0_0.length c0_0,.int .i64 a0_1],.string a1,.string a2] w fun e w' => e = .returned (.bool r) ∧ Below w.heap.size w w' := by
 have hu24 := Try.underlying24
 have hu28 := Try.underlying28
 have HR0_0 := Aside0.mk hr0_0
 have HC0_0 := Aside0.mk hc0_0
 clear hr0_0 hc0_0
 have HB := Aside0.mk (Below.refl w.heap.size w)
 have H : (if (a1.size : Int) > 1048576 then (some true) else (if (a2.size : Int) > 1048576 then (some true) else ((laws_szStore.f k l0_0 a0_1 1048576).bind fun t360 => (if t360 < 0 then (some true) else ((laws_toStore.f k l0_0 a0_1).bind fun bt361 => ((spec_PutAbsent.f k bt361.1 bt361.2 a1 a2).bind fun bt365 => ((laws_toStore.f k l0_0 a0_1).bind fun bt372 => ((impl_PutAbsent.f k bt372.1 bt372.2 a1 a2).bind fun bt377 => ((laws_eqStore.f k bt377.1 bt377.2.1 bt365.1 bt365.2.1).bind fun t384 => (if t384 = true then (if bt377.2.2.1 = bt365.2.2.1 then (laws_FnExactPutAbsent.j0 k a1 a2 bt365.2.2.1 bt365.2.2.2 bt377.2.2.1 bt377.2.2.2 (bt377.2.2.2 != bt365.2.2.2) l0_0 a0_1 bt365.1 bt365.2.1 bt372.1 bt372.2 bt377.1 bt377.2.1) else (laws_FnExactPutAbsent.j0 k a1 a2 bt365.2.2.1 bt365.2.2.2 bt377.2.2.1 bt377.2.2.2 true l0_0 a0_1 bt365.1 bt365.2.1 bt372.1 bt372.2 bt377.1 bt377.2.1)) else (laws_FnExactPutAbsent.j0 k a1 a2 bt365.2.2.1 bt365.2.2.2 bt377.2.2.1 bt377.2.2.2 true l0_0 a0_1 bt365.1 bt365.2.1 bt372.1 bt372.2 bt377.1 bt377.2.1))))))))))) = some r := h
 clear h
 by_cases c4 : (a1.size : Int) > 1048576
 ·rw [if_pos c4] at H
  have c4b0 : decide (1048576 < (a1.size : Int)) = true := decide_eq_true c4
  have c4b1 : decide (1048576 < a1.size) = true := decide_eq_true (by omega)
  clear c4
  obtain rfl := Option.some.inj H
  go_enter Try.func5,Try.ntmps5
  go_wp2_with (first | ((with_reducible refine gate_dst (N:=3) rfl ?_); refine box_event ?hg (N:=3) ?hd (cs := #[.slice A0_0 l0_0.length c0_0,.int .i64 a0_1]) (t:=24) ?hr ?_; (case hd => rfl); (case hg => rfl); (case hr => first | (go_simp; done) | (go_simp; rfl)); intro gb359 hg w5 hbox hb; have n0_ := Aside0.mk (below_step bA hb); have n1_ := Aside0.mk (hbox); have n2_ := Aside0.mk ((by rw [hg]; exact (below_size bA) : w.heap.size ≤ gb359)); have n3_ := Aside0.mk ((by rw [hg]; exact (below_size bA) : w.heap.size ≤ gb359)); clear HB; have HB := n0_; have BK359 := n1_; have GW359 := n2_; have GE359 := n3_; clear n0_ n1_ n2_ n3_; clear hb hbox hg))
  go_ret
  exact ⟨by first | rfl | (simp [errW_none,errW_some] <;> rfl) | (simp [*,errW_none,errW_some] <;> rfl),bA⟩
 ·rw [if_neg c4] at H
  have c4b0 : decide (1048576 < (a1.size : Int)) = false := decide_eq_false c4
  have c4b1 : decide (1048576 < a1.size) = false := decide_eq_false (by omega)
  clear c4
  by_cases c6 : (a2.size : Int) > 1048576
  ·rw [if_pos c6] at H
   have c6b0 : decide (1048576 < (a2.size : Int)) = true := decide_eq_true c6
   have c6b1 : decide (1048576 < a2.size) = true := decide_eq_true (by omega)
   clear c6
   obtain rfl := Option.some.inj H
   go_enter Try.func5,Try.ntmps5
   go_wp2_with (first | ((with_reducible refine gate_dst (N:=3) rfl ?_); refine box_event ?hg (N:=3) ?hd (cs := #[.slice A0_0 l0_0.length c0_0,.int .i64 a0_1]) (t:=24) ?hr ?_; (case hd => rfl); (case hg => rfl); (case hr => first | (go_simp; done) | (go_simp; rfl)); intro gb359 hg w7 hbox hb; have n0_ := Aside0.mk (below_step bA hb); have n1_ := Aside0.mk (hbox); have n2_ := Aside0.mk ((by rw [hg]; exact (below_size bA) : w.heap.size ≤ gb359)); have n3_ := Aside0.mk ((by rw [hg]; exact (below_size bA) : w.heap.size ≤ gb359)); clear HB; have HB := n0_; have BK359 := n1_; have GW359 := n2_; have GE359 := n3_; clear n0_ n1_ n2_ n3_; clear hb hbox hg))
   go_ret
   exact ⟨by first | rfl | (simp [errW_none,errW_some] <;> rfl) | (simp [*,errW_none,errW_some] <;> rfl),bA⟩
  ·rw [if_neg c6] at H
   have c6b0 : decide (1048576 < (a2.size : Int)) = false := decide_eq_false c6
   have c6b1 : decide (1048576 < a2.size) = false := decide_eq_false (by omega)
   clear c6
   replace H := Option.bind_eq_some_iff.mp H
   obtain ⟨t360,A80,H⟩ := H
   try dsimp only at H
   have A8 := Aside0.mk A80
   clear A80
   by_cases c9 : t360 < 0
   ·rw [if_pos c9] at H
    have c9b0 : decide (t360 < 0) = true := decide_eq_true c9
    clear c9
    obtain rfl := Option.some.inj H
    go_enter Try.func5,Try.ntmps5
    go_wp2_with (first | ((with_reducible refine gate_dst (N:=3) rfl ?_); refine box_event ?hg (N:=3) ?hd (cs := #[.slice A0_0 l0_0.length c0_0,.int .i64 a0_1]) (t:=24) ?hr ?_; (case hd => rfl); (case hg => rfl); (case hr => first | (go_simp; done) | (go_simp; rfl)); intro gb359 hg w10 hbox hb; have n0_ := Aside0.mk (below_step bA hb); have n1_ := Aside0.mk (hbox); have n2_ := Aside0.mk ((by rw [hg]; exact (below_size bA) : w.heap.size ≤ gb359)); have n3_ := Aside0.mk ((by rw [hg]; exact (below_size bA) : w.heap.size ≤ gb359)); clear HB; have HB := n0_; have BK359 := n1_; have GW359 := n2_; have GE359 := n3_; clear n0_ n1_ n2_ n3_; clear hb hbox hg; have hcz11_0 : w10.cell? ⟨gb359,0,none⟩ = some (.slice A0_0 l0_0.length c0_0) := (blk_cell BK359.out 0).trans rfl; have hcz11_1 : w10.cell? ⟨gb359,1,none⟩ = some (.int .i64 a0_1) := (blk_cell BK359.out 1).trans rfl; have hfz11_0 := blk_frozen BK359.out 0; have hfz11_1 := blk_frozen BK359.out 1) | ((with_reducible refine gate_callee (f:=7) rfl ?_); refine goesL_ (some 29) rfl rfl Try.func7 (by kernel_rfl) rfl #[.agg #[.slice A0_0 l0_0.length c0_0,.int .i64 a0_1],.int .i64 1048576] rfl mA ?_; (with_reducible refine (laws_szStore.calls k _ _ l0_0 a0_1 1048576 t360 _ ?side1 ?side2 A8.out).mono ?_); (case side1 => repeat (first | exact (Kd.C_below HR0_0.out HB.out) | (with_reducible refine Kd.C_alloc ?_ _) | (with_reducible refine Kd.C_drewN ?_ _) | (with_reducible refine Kd.C_drew ?_))); (case side2 => exact HC0_0.out); rintro e w12 ⟨rfl,hb⟩; refine ⟨_,rfl,?_⟩; have n0_ := Aside0.mk (blk_below (g:=gb359) (o:=.cells #[.slice A0_0 l0_0.length c0_0,.int .i64 a0_1] 24 (0,0)) (kA BK359.out) hb); have n1_ := Aside0.mk (below_step bA hb); clear BK359; clear HB; have BK359 := n0_; have HB := n1_; clear n0_ n1_; (try clear hb); (try clear hb2); (try clear hk); (try clear hi)))
    go_ret
    exact ⟨by first | rfl | (simp [errW_none,errW_some] <;> rfl) | (simp [*,errW_none,errW_some] <;> rfl),bA⟩
   ·rw [if_neg c9] at H
    have c9b0 : decide (t360 < 0) = false := decide_eq_false c9
    clear c9
    replace H := Option.bind_eq_some_iff.mp H
    obtain ⟨⟨t361,t364⟩,A130,H⟩ := H
    try dsimp only at H
    have A13 := Aside0.mk A130
    clear A130
    replace H := Option.bind_eq_some_iff.mp H
    obtain ⟨⟨t365,t368,t369,t370⟩,A140,H⟩ := H
    try dsimp only at H
    have A14 := Aside0.mk A140
    clear A140
    replace H := Option.bind_eq_some_iff.mp H
    obtain ⟨⟨t372,t375⟩,A150,H⟩ := H
    try dsimp only at H
    have A15 := Aside0.mk A150
    clear A150
    replace H := Option.bind_eq_some_iff.mp H
    obtain ⟨⟨t377,t380,t381,t382⟩,A160,H⟩ := H
    try dsimp only at H
    have A16 := Aside0.mk A160
    clear A160
    have HC17 := Aside0.mk H
    clear H
    go_enter Try.func5,Try.ntmps5
    go_upto_region 12 with (first | ((with_reducible refine gate_dst (N:=3) rfl ?_); refine box_event ?hg (N:=3) ?hd (cs := #[.slice A0_0 l0_0.length c0_0,.int .i64 a0_1]) (t:=24) ?hr ?_; (case hd => rfl); (case hg => rfl); (case hr => first | (go_simp; done) | (go_simp; rfl)); intro gb359 hg w18 hbox hb; have n0_ := Aside0.mk (below_step bA hb); have n1_ := Aside0.mk (hbox); have n2_ := Aside0.mk ((by rw [hg]; exact (below_size bA) : w.heap.size ≤ gb359)); have n3_ := Aside0.mk ((by rw [hg]; exact (below_size bA) : w.heap.size ≤ gb359)); clear HB; have HB := n0_; have BK359 := n1_; have GW359 := n2_; have GE359 := n3_; clear n0_ n1_ n2_ n3_; clear hb hbox hg; have hcz19_0 : w18.cell? ⟨gb359,0,none⟩ = some (.slice A0_0 l0_0.length c0_0) := (blk_cell BK359.out 0).trans rfl; have hcz19_1 : w18.cell? ⟨gb359,1,none⟩ = some (.int .i64 a0_1) := (blk_cell BK359.out 1).trans rfl; have hfz19_0 := blk_frozen BK359.out 0; have hfz19_1 := blk_frozen BK359.out 1) | ((with_reducible refine gate_callee (f:=7) rfl ?_); refine goesL_ (some 29) rfl rfl Try.func7 (by kernel_rfl) rfl #[.agg #[.slice A0_0 l0_0.length c0_0,.int .i64 a0_1],.int .i64 1048576] rfl mA ?_; (with_reducible refine (laws_szStore.calls k _ _ l0_0 a0_1 1048576 t360 _ ?side1 ?side2 A8.out).mono ?_); (case side1 => repeat (first | exact (Kd.C_below HR0_0.out HB.out) | (with_reducible refine Kd.C_alloc ?_ _) | (with_reducible refine Kd.C_drewN ?_ _) | (with_reducible refine Kd.C_drew ?_))); (case side2 => exact HC0_0.out); rintro e w20 ⟨rfl,hb⟩; refine ⟨_,rfl,?_⟩; have n0_ := Aside0.mk (blk_below (g:=gb359) (o:=.cells #[.slice A0_0 l0_0.length c0_0,.int .i64 a0_1] 24 (0,0)) (kA BK359.out) hb); have n1_ := Aside0.mk (below_step bA hb); clear BK359; clear HB; have BK359 := n0_; have HB := n1_; clear n0_ n1_; (try clear hb); (try clear hb2); (try clear hk); (try clear hi); have hcz21_0 : w20.cell? ⟨gb359,0,none⟩ = some (.slice A0_0 l0_0.length c0_0) := (blk_cell BK359.out 0).trans rfl; have hcz21_1 : w20.cell? ⟨gb359,1,none⟩ = some (.int .i64 a0_1) := (blk_cell BK359.out 1).trans rfl; have hfz21_0 := blk_frozen BK359.out 0; have hfz21_1 := blk_frozen BK359.out 1) | ((with_reducible refine gate_callee (f:=9) rfl ?_); refine goesL_ (some 34) rfl rfl Try.func9 (by kernel_rfl) rfl #[.agg #[.slice A0_0 l0_0.length c0_0,.int .i64 a0_1]] rfl mA ?_; (with_reducible refine (laws_toStore.calls k _ _ l0_0 a0_1 t361 t364 _ ?side1 ?side2 A13.out).mono ?_); (case side1 => repeat (first | exact (Kd.C_below HR0_0.out HB.out) | (with_reducible refine Kd.C_alloc ?_ _) | (with_reducible refine Kd.C_drewN ?_ _) | (with_reducible refine Kd.C_drew ?_))); (case side2 => exact HC0_0.out); rintro e w22 ⟨v362,rfl,ho0,hb⟩; refine ⟨_,rfl,?_⟩; have n0_ := Aside0.mk (Kd.R_lower ho0 (below_size bA)); have n1_ := Aside0.mk (blk_below (g:=gb359) (o:=.cells #[.slice A0_0 l0_0.length c0_0,.int .i64 a0_1] 24 (0,0)) (kA BK359.out) hb); have n2_ := Aside0.mk (below_step bA hb); clear BK359; clear HB; have HO363 := n0_; have BK359 := n1_; have HB := n2_; clear n0_ n1_ n2_; (try clear hb); (try clear hb2); (try clear hk); (try clear hi); (try clear ho0); obtain ⟨Ao23,co23,eo23⟩ := Kd.R_slice HO363.out; subst eo23) | ((with_reducible refine gate_callee (f:=19) rfl ?_); refine goesL_ (some 37) rfl rfl Try.func19 (by kernel_rfl) rfl #[.agg #[.slice Ao23 t361.length co23,.int .i64 t364],.string a1,.string a2] rfl mA ?_; (with_reducible refine (spec_PutAbsent.calls k _ _ t361 t364 a1 a2 t365 t368 t369 t370 _ ?side1 ?side2 A14.out).mono ?_); (case side1 => repeat (first | exact (Kd.R_reads' HO363.out).2.2 | (with_reducible refine Kd.C_alloc ?_ _) | (with_reducible refine Kd.C_drewN ?_ _) | (with_reducible refine Kd.C_drew ?_))); (case side2 => exact (Kd.R_reads' HO363.out).2.1); rintro e w24 ⟨v366,rfl,ho0,hb⟩; refine ⟨_,rfl,?_⟩; have n0_ := Aside0.mk (Kd.R_elder' (rA HO363.out) (Kd.R_base ho0) hb); have n1_ := Aside0.mk (Kd.R_lower (Kd.R_new' ho0 (Kd.R_lt (rA HO363.out))) (below_size bA)); have n2_ := Aside0.mk (blk_below (g:=gb359) (o:=.cells #[.slice A0_0 l0_0.length c0_0,.int .i64 a0_1] 24 (0,0)) (kA BK359.out) hb); have n3_ := Aside0.mk (below_step bA hb); clear HO363; clear BK359; clear HB; have HO363 := n0_; have HO367 := n1_; have BK359 := n2_; have HB := n3_; clear n0_ n1_ n2_ n3_; (try clear hb); (try clear hb2); (try clear hk); (try clear hi); (try clear ho0)) | ((with_reducible refine gate_dst (N:=8) rfl ?_); refine box_event ?hg (N:=8) ?hd (cs := #[.slice none 0 0,.int .i64 0]) (t:=28) ?hr ?_; (case hd => rfl); (case hg => rfl); (case hr => first | (go_simp; done) | (go_simp; rfl)); intro gb371 hg w25 hbox hb; have n0_ := Aside0.mk (Kd.R_below (rA HO363.out) hb); have n1_ := Aside0.mk (Kd.R_below (rA HO367.out) hb); have n2_ := Aside0.mk (blk_below (g:=gb359) (o:=.cells #[.slice A0_0 l0_0.length c0_0,.int .i64 a0_1] 24 (0,0)) (kA BK359.out) hb); have n3_ := Aside0.mk (below_step bA hb); have n4_ := Aside0.mk (hbox); have n5_ := Aside0.mk ((by rw [hg]; exact (below_size bA) : w.heap.size ≤ gb371)); have n6_ := Aside0.mk ((by rw [hg]; exact (below_size bA) : w.heap.size ≤ gb371)); have n7_ := Aside0.mk ((by rw [hg]; exact Nat.ne_of_lt (blk_lt (g:=gb359) (o:=.cells #[.slice A0_0 l0_0.length c0_0,.int .i64 a0_1] 24 (0,0)) (kA BK359.out)) : gb359 ≠ gb371)); have n8_ := Aside0.mk ((by rw [hg]; exact Nat.ne_of_gt (blk_lt (g:=gb359) (o:=.cells #[.slice A0_0 l0_0.length c0_0,.int .i64 a0_1] 24 (0,0)) (kA BK359.out)) : gb371 ≠ gb359)); clear HO363; clear HO367; clear BK359; clear HB; have HO363 := n0_; have HO367 := n1_; have BK359 := n2_; have HB := n3_; have BK371 := n4_; have GW371 := n5_; have GE371 := n6_; have NB359_371 := n7_; have NB371_359 := n8_; clear n0_ n1_ n2_ n3_ n4_ n5_ n6_ n7_ n8_; clear hb hbox hg; obtain ⟨Ao26,co26,eo26⟩ := Kd.R_slice HO367.out; subst eo26; have hnb27 := NB371_359.out; have hnc27 := NB359_371.out; have hcz28_0 : w25.cell? ⟨gb371,0,none⟩ = some (.slice none 0 0) := (blk_cell BK371.out 0).trans rfl; have hcz28_1 : w25.cell? ⟨gb371,1,none⟩ = some (.int .i64 0) := (blk_cell BK371.out 1).trans rfl; have hfz28_0 := blk_frozen BK371.out 0; have hfz28_1 := blk_frozen BK371.out 1; have hcz29_0 : w25.cell? ⟨gb359,0,none⟩ = some (.slice A0_0 l0_0.length c0_0) := (blk_cell BK359.out 0).trans rfl; have hcz29_1 : w25.cell? ⟨gb359,1,none⟩ = some (.int .i64 a0_1) := (blk_cell BK359.out 1).trans rfl; have hfz29_0 := blk_frozen BK359.out 0; have hfz29_1 := blk_frozen BK359.out 1) | ((with_reducible refine gate_callee (f:=9) rfl ?_); refine goesL_ (some 42) rfl rfl Try.func9 (by kernel_rfl) rfl #[.agg #[.slice A0_0 l0_0.length c0_0,.int .i64 a0_1]] rfl mA ?_; (with_reducible refine (laws_toStore.calls k _ _ l0_0 a0_1 t372 t375 _ ?side1 ?side2 A15.out).mono ?_); (case side1 => exact Kd.C_below HR0_0.out bA); (case side2 => exact HC0_0.out); rintro e w30 ⟨v373,rfl,ho0,hb⟩; refine ⟨_,rfl,?_⟩; have n0_ := Aside0.mk (Kd.R_elder' (by (with_reducible repeat (first | apply Kd.R_alloc | apply Kd.R_drewN | apply Kd.R_drew)); exact (Kd.R_mono (Kd.R_far (p:=⟨gb371,1,none⟩) (Kd.R_far (p:=⟨gb371,0,none⟩) (Kd.R_types HO363.out BK371.out (by decide)) (fun _ hk => hk.2) (.slice Ao26 t365.length co26)) (fun _ hk => hk.2) (.int .i64 t368)) (fun _ h_ => h_.1))) (Kd.R_base ho0) hb); have n1_ := Aside0.mk (Kd.R_elder' (by (with_reducible repeat (first | apply Kd.R_alloc | apply Kd.R_drewN | apply Kd.R_drew)); exact (Kd.R_mono (Kd.R_far (p:=⟨gb371,1,none⟩) (Kd.R_far (p:=⟨gb371,0,none⟩) (Kd.R_types HO367.out BK371.out (by decide)) (fun _ hk => hk.2) (.slice Ao26 t365.length co26)) (fun _ hk => hk.2) (.int .i64 t368)) (fun _ h_ => h_.1))) (Kd.R_base ho0) hb); have n2_ := Aside0.mk (Kd.R_lower (Kd.R_new' (Kd.R_new' ho0 (Kd.R_lt (by (with_reducible repeat (first | apply Kd.R_alloc | apply Kd.R_drewN | apply Kd.R_drew)); exact (Kd.R_mono (Kd.R_far (p:=⟨gb371,1,none⟩) (Kd.R_far (p:=⟨gb371,0,none⟩) (Kd.R_types HO363.out BK371.out (by decide)) (fun _ hk => hk.2) (.slice Ao26 t365.length co26)) (fun _ hk => hk.2) (.int .i64 t368)) (fun _ h_ => h_.1))))) (Kd.R_lt (by (with_reducible repeat (first | apply Kd.R_alloc | apply Kd.R_drewN | apply Kd.R_drew)); exact (Kd.R_mono (Kd.R_far (p:=⟨gb371,1,none⟩) (Kd.R_far (p:=⟨gb371,0,none⟩) (Kd.R_types HO367.out BK371.out (by decide)) (fun _ hk => hk.2) (.slice Ao26 t365.length co26)) (fun _ hk => hk.2) (.int .i64 t368)) (fun _ h_ => h_.1))))) (below_size bA)); have n3_ := Aside0.mk (blk_below (g:=gb359) (o:=.cells #[.slice A0_0 l0_0.length c0_0,.int .i64 a0_1] 24 (0,0)) (kF BK359.out) hb); have n4_ := Aside0.mk (blk_below (g:=gb371) (o:=.cells #[.slice Ao26 t365.length co26,.int .i64 t368] 28 (0,0)) (by (with_reducible repeat (first | refine blk_drewN ?_ _ | refine blk_drew ?_ | refine blk_alloc ?_ _)); refine blk_put (cs := #[.slice Ao26 t365.length co26,.int .i64 0]) ?_ 1 _ rfl; (with_reducible repeat (first | refine blk_drewN ?_ _ | refine blk_drew ?_ | refine blk_alloc ?_ _)); refine blk_put (cs := #[.slice none 0 0,.int .i64 0]) ?_ 0 _ rfl; (with_reducible repeat (first | refine blk_drewN ?_ _ | refine blk_drew ?_ | refine blk_alloc ?_ _)); exact BK371.out) hb); have n5_ := Aside0.mk (below_step bA hb); clear HO363; clear HO367; clear BK359; clear BK371; clear HB; have HO363 := n0_; have HO367 := n1_; have HO374 := n2_; have BK359 := n3_; have BK371 := n4_; have HB := n5_; clear n0_ n1_ n2_ n3_ n4_ n5_; (try clear hb); (try clear hb2); (try clear hk); (try clear hi); (try clear ho0)) | ((with_reducible refine gate_dst (N:=11) rfl ?_); refine box_event ?hg (N:=11) ?hd (cs := #[.slice none 0 0,.int .i64 0]) (t:=28) ?hr ?_; (case hd => rfl); (case hg => rfl); (case hr => first | (go_simp; done) | (go_simp; rfl)); intro gb376 hg w31 hbox hb; have n0_ := Aside0.mk (Kd.R_below (rA HO363.out) hb); have n1_ := Aside0.mk (Kd.R_below (rA HO367.out) hb); have n2_ := Aside0.mk (Kd.R_below (rA HO374.out) hb); have n3_ := Aside0.mk (blk_below (g:=gb359) (o:=.cells #[.slice A0_0 l0_0.length c0_0,.int .i64 a0_1] 24 (0,0)) (kA BK359.out) hb); have n4_ := Aside0.mk (blk_below (g:=gb371) (o:=.cells #[.slice Ao26 t365.length co26,.int .i64 t368] 28 (0,0)) (kA BK371.out) hb); have n5_ := Aside0.mk (below_step bA hb); have n6_ := Aside0.mk (hbox); have n7_ := Aside0.mk ((by rw [hg]; exact (below_size bA) : w.heap.size ≤ gb376)); have n8_ := Aside0.mk ((by rw [hg]; exact (below_size bA) : w.heap.size ≤ gb376)); have n9_ := Aside0.mk ((by rw [hg]; exact Nat.ne_of_lt (blk_lt (g:=gb359) (o:=.cells #[.slice A0_0 l0_0.length c0_0,.int .i64 a0_1] 24 (0,0)) (kA BK359.out)) : gb359 ≠ gb376)); have n10_ := Aside0.mk ((by rw [hg]; exact Nat.ne_of_gt (blk_lt (g:=gb359) (o:=.cells #[.slice A0_0 l0_0.length c0_0,.int .i64 a0_1] 24 (0,0)) (kA BK359.out)) : gb376 ≠ gb359)); have n11_ := Aside0.mk ((by rw [hg]; exact Nat.ne_of_lt (blk_lt (g:=gb371) (o:=.cells #[.slice Ao26 t365.length co26,.int .i64 t368] 28 (0,0)) (kA BK371.out)) : gb371 ≠ gb376)); have n12_ := Aside0.mk ((by rw [hg]; exact Nat.ne_of_gt (blk_lt (g:=gb371) (o:=.cells #[.slice Ao26 t365.length co26,.int .i64 t368] 28 (0,0)) (kA BK371.out)) : gb376 ≠ gb371)); clear HO363; clear HO367; clear HO374; clear BK359; clear BK371; clear HB; have HO363 := n0_; have HO367 := n1_; have HO374 := n2_; have BK359 := n3_; have BK371 := n4_; have HB := n5_; have BK376 := n6_; have GW376 := n7_; have GE376 := n8_; have NB359_376 := n9_; have NB376_359 := n10_; have NB371_376 := n11_; have NB376_371 := n12_; clear n0_ n1_ n2_ n3_ n4_ n5_ n6_ n7_ n8_ n9_ n10_ n11_ n12_; clear hb hbox hg; obtain ⟨Ao32,co32,eo32⟩ := Kd.R_slice HO374.out; subst eo32; have hnb33 := NB376_359.out; have hnc33 := NB359_376.out; have hnb34 := NB376_371.out; have hnc34 := NB371_376.out; have hcz35_0 : w31.cell? ⟨gb376,0,none⟩ = some (.slice none 0 0) := (blk_cell BK376.out 0).trans rfl; have hcz35_1 : w31.cell? ⟨gb376,1,none⟩ = some (.int .i64 0) := (blk_cell BK376.out 1).trans rfl; have hfz35_0 := blk_frozen BK376.out 0; have hfz35_1 := blk_frozen BK376.out 1) | ((with_reducible refine gate_callee (f:=20) rfl ?_); refine goesL_ (some 47) rfl rfl Try.func20 (by kernel_rfl) rfl #[.agg #[.slice Ao32 t372.length co32,.int .i64 t375],.string a1,.string a2] rfl mA ?_; (with_reducible refine (impl_PutAbsent.calls k _ _ t372 t375 a1 a2 t377 t380 t381 t382 _ ?side1 ?side2 A16.out).mono ?_); (case side1 => refine (Kd.R_reads' (e:=71) (base := w.heap.size) (ok := fun k_ => ((True ∧ some k_ ≠ (.slice Ao23 t361.length co23 : Value).ownBlock) ∧ some k_ ≠ (.slice Ao26 t365.length co26 : Value).ownBlock)) (n:=t372.length) (c:=co32) ?_).2.2; exact (by (with_reducible repeat (first | apply Kd.R_alloc | apply Kd.R_drewN | apply Kd.R_drew)); exact (Kd.R_mono (Kd.R_far (p:=⟨gb376,1,none⟩) (Kd.R_far (p:=⟨gb376,0,none⟩) (Kd.R_types HO374.out BK376.out (by decide)) (fun _ hk => hk.2) (.slice Ao32 t372.length co32)) (fun _ hk => hk.2) (.int .i64 t375)) (fun _ h_ => h_.1)))); (case side2 => exact (Kd.R_reads' HO374.out).2.1); rintro e w36 ⟨v378,rfl,ho0,hb⟩; refine ⟨_,rfl,?_⟩; have n0_ := Aside0.mk (Kd.R_elder' (by (with_reducible repeat (first | apply Kd.R_alloc | apply Kd.R_drewN | apply Kd.R_drew)); exact (Kd.R_mono (Kd.R_far (p:=⟨gb376,1,none⟩) (Kd.R_far (p:=⟨gb376,0,none⟩) (Kd.R_types HO363.out BK376.out (by decide)) (fun _ hk => hk.2) (.slice Ao32 t372.length co32)) (fun _ hk => hk.2) (.int .i64 t375)) (fun _ h_ => h_.1))) (Kd.R_base ho0) hb); have n1_ := Aside0.mk (Kd.R_elder' (by (with_reducible repeat (first | apply Kd.R_alloc | apply Kd.R_drewN | apply Kd.R_drew)); exact (Kd.R_mono (Kd.R_far (p:=⟨gb376,1,none⟩) (Kd.R_far (p:=⟨gb376,0,none⟩) (Kd.R_types HO367.out BK376.out (by decide)) (fun _ hk => hk.2) (.slice Ao32 t372.length co32)) (fun _ hk => hk.2) (.int .i64 t375)) (fun _ h_ => h_.1))) (Kd.R_base ho0) hb); have n2_ := Aside0.mk (Kd.R_elder' (by (with_reducible repeat (first | apply Kd.R_alloc | apply Kd.R_drewN | apply Kd.R_drew)); exact (Kd.R_mono (Kd.R_far (p:=⟨gb376,1,none⟩) (Kd.R_far (p:=⟨gb376,0,none⟩) (Kd.R_types HO374.out BK376.out (by decide)) (fun _ hk => hk.2) (.slice Ao32 t372.length co32)) (fun _ hk => hk.2) (.int .i64 t375)) (fun _ h_ => h_.1))) (Kd.R_base ho0) hb); have n3_ := Aside0.mk (Kd.R_lower (Kd.R_new' (Kd.R_new' (Kd.R_new' ho0 (Kd.R_lt (by (with_reducible repeat (first | apply Kd.R_alloc | apply Kd.R_drewN | apply Kd.R_drew)); exact (Kd.R_mono (Kd.R_far (p:=⟨gb376,1,none⟩) (Kd.R_far (p:=⟨gb376,0,none⟩) (Kd.R_types HO363.out BK376.out (by decide)) (fun _ hk => hk.2) (.slice Ao32 t372.length co32)) (fun _ hk => hk.2) (.int .i64 t375)) (fun _ h_ => h_.1))))) (Kd.R_lt (by (with_reducible repeat (first | apply Kd.R_alloc | apply Kd.R_drewN | apply Kd.R_drew)); exact (Kd.R_mono (Kd.R_far (p:=⟨gb376,1,none⟩) (Kd.R_far (p:=⟨gb376,0,none⟩) (Kd.R_types HO367.out BK376.out (by decide)) (fun _ hk => hk.2) (.slice Ao32 t372.length co32)) (fun _ hk => hk.2) (.int .i64 t375)) (fun _ h_ => h_.1))))) (Kd.R_lt (by (with_reducible repeat (first | apply Kd.R_alloc | apply Kd.R_drewN | apply Kd.R_drew)); exact (Kd.R_mono (Kd.R_far (p:=⟨gb376,1,none⟩) (Kd.R_far (p:=⟨gb376,0,none⟩) (Kd.R_types HO374.out BK376.out (by decide)) (fun _ hk => hk.2) (.slice Ao32 t372.length co32)) (fun _ hk => hk.2) (.int .i64 t375)) (fun _ h_ => h_.1))))) (below_size bA)); have n4_ := Aside0.mk (blk_below (g:=gb359) (o:=.cells #[.slice A0_0 l0_0.length c0_0,.int .i64 a0_1] 24 (0,0)) (kF BK359.out) hb); have n5_ := Aside0.mk (blk_below (g:=gb371) (o:=.cells #[.slice Ao26 t365.length co26,.int .i64 t368] 28 (0,0)) (kF BK371.out) hb); have n6_ := Aside0.mk (blk_below (g:=gb376) (o:=.cells #[.slice Ao32 t372.length co32,.int .i64 t375] 28 (0,0)) (by (with_reducible repeat (first | refine blk_drewN ?_ _ | refine blk_drew ?_ | refine blk_alloc ?_ _)); refine blk_put (cs := #[.slice Ao32 t372.length co32,.int .i64 0]) ?_ 1 _ rfl; (with_reducible repeat (first | refine blk_drewN ?_ _ | refine blk_drew ?_ | refine blk_alloc ?_ _)); refine blk_put (cs := #[.slice none 0 0,.int .i64 0]) ?_ 0 _ rfl; (with_reducible repeat (first | refine blk_drewN ?_ _ | refine blk_drew ?_ | refine blk_alloc ?_ _)); exact BK376.out) hb); have n7_ := Aside0.mk (below_step bA hb); clear HO363; clear HO367; clear HO374; clear BK359; clear BK371; clear BK376; clear HB; have HO363 := n0_; have HO367 := n1_; have HO374 := n2_; have HO379 := n3_; have BK359 := n4_; have BK371 := n5_; have BK376 := n6_; have HB := n7_; clear n0_ n1_ n2_ n3_ n4_ n5_ n6_ n7_; (try clear hb); (try clear hb2); (try clear hk); (try clear hi); (try clear ho0)) | ((with_reducible refine gate_dst (N:=12) rfl ?_); refine box_event ?hg (N:=12) ?hd (cs := #[.slice none 0 0,.int .i64 0]) (t:=28) ?hr ?_; (case hd => rfl); (case hg => rfl); (case hr => first | (go_simp; done) | (go_simp; rfl)); intro gb383 hg w37 hbox hb; have n0_ := Aside0.mk (Kd.R_below (rA HO363.out) hb); have n1_ := Aside0.mk (Kd.R_below (rA HO367.out) hb); have n2_ := Aside0.mk (Kd.R_below (rA HO374.out) hb); have n3_ := Aside0.mk (Kd.R_below (rA HO379.out) hb); have n4_ := Aside0.mk (blk_below (g:=gb359) (o:=.cells #[.slice A0_0 l0_0.length c0_0,.int .i64 a0_1] 24 (0,0)) (kA BK359.out) hb); have n5_ := Aside0.mk (blk_below (g:=gb371) (o:=.cells #[.slice Ao26 t365.length co26,.int .i64 t368] 28 (0,0)) (kA BK371.out) hb); have n6_ := Aside0.mk (blk_below (g:=gb376) (o:=.cells #[.slice Ao32 t372.length co32,.int .i64 t375] 28 (0,0)) (kA BK376.out) hb); have n7_ := Aside0.mk (below_step bA hb); have n8_ := Aside0.mk (hbox); have n9_ := Aside0.mk ((by rw [hg]; exact (below_size bA) : w.heap.size ≤ gb383)); have n10_ := Aside0.mk ((by rw [hg]; exact (below_size bA) : w.heap.size ≤ gb383)); have n11_ := Aside0.mk ((by rw [hg]; exact Nat.ne_of_lt (blk_lt (g:=gb359) (o:=.cells #[.slice A0_0 l0_0.length c0_0,.int .i64 a0_1] 24 (0,0)) (kA BK359.out)) : gb359 ≠ gb383)); have n12_ := Aside0.mk ((by rw [hg]; exact Nat.ne_of_gt (blk_lt (g:=gb359) (o:=.cells #[.slice A0_0 l0_0.length c0_0,.int .i64 a0_1] 24 (0,0)) (kA BK359.out)) : gb383 ≠ gb359)); have n13_ := Aside0.mk ((by rw [hg]; exact Nat.ne_of_lt (blk_lt (g:=gb371) (o:=.cells #[.slice Ao26 t365.length co26,.int .i64 t368] 28 (0,0)) (kA BK371.out)) : gb371 ≠ gb383)); have n14_ := Aside0.mk ((by rw [hg]; exact Nat.ne_of_gt (blk_lt (g:=gb371) (o:=.cells #[.slice Ao26 t365.length co26,.int .i64 t368] 28 (0,0)) (kA BK371.out)) : gb383 ≠ gb371)); have n15_ := Aside0.mk ((by rw [hg]; exact Nat.ne_of_lt (blk_lt (g:=gb376) (o:=.cells #[.slice Ao32 t372.length co32,.int .i64 t375] 28 (0,0)) (kA BK376.out)) : gb376 ≠ gb383)); have n16_ := Aside0.mk ((by rw [hg]; exact Nat.ne_of_gt (blk_lt (g:=gb376) (o:=.cells #[.slice Ao32 t372.length co32,.int .i64 t375] 28 (0,0)) (kA BK376.out)) : gb383 ≠ gb376)); clear HO363; clear HO367; clear HO374; clear HO379; clear BK359; clear BK371; clear BK376; clear HB; have HO363 := n0_; have HO367 := n1_; have HO374 := n2_; have HO379 := n3_; have BK359 := n4_; have BK371 := n5_; have BK376 := n6_; have HB := n7_; have BK383 := n8_; have GW383 := n9_; have GE383 := n10_; have NB359_383 := n11_; have NB383_359 := n12_; have NB371_383 := n13_; have NB383_371 := n14_; have NB376_383 := n15_; have NB383_376 := n16_; clear n0_ n1_ n2_ n3_ n4_ n5_ n6_ n7_ n8_ n9_ n10_ n11_ n12_ n13_ n14_ n15_ n16_; clear hb hbox hg; obtain ⟨Ao38,co38,eo38⟩ := Kd.R_slice HO379.out; subst eo38; have hnb39 := NB383_359.out; have hnc39 := NB359_383.out; have hnb40 := NB383_371.out; have hnc40 := NB371_383.out; have hnb41 := NB383_376.out; have hnc41 := NB376_383.out; have hcz42_0 : w37.cell? ⟨gb383,0,none⟩ = some (.slice none 0 0) := (blk_cell BK383.out 0).trans rfl; have hcz42_1 : w37.cell? ⟨gb383,1,none⟩ = some (.int .i64 0) := (blk_cell BK383.out 1).trans rfl; have hfz42_0 := blk_frozen BK383.out 0; have hfz42_1 := blk_frozen BK383.out 1))
    (try simp only [Act.put,setIfInBounds_toArray,set_cons_zero,set_cons_succ])
    go_cut [64] (fun v64 wc => ∃ (kq : Nat) (x64_16 : Bool),v64 = .bool x64_16 ∧ Aside0 (laws_FnExactPutAbsent.j0 kq a1 a2 t369 t370 t381 t382 x64_16 l0_0 a0_1 t365 t368 t372 t375 t377 t380 = some r) ∧ Aside0 (kq ≤ k) ∧ Aside0 (Kd.R k71 71 wc w.heap.size (fun k_ => some k_ ≠ ((.slice Ao32 t372.length co32) : Value).ownBlock ∧ some k_ ≠ ((.slice Ao38 t377.length co38) : Value).ownBlock) (.slice Ao26 t365.length co26) t365) ∧ Aside0 (Kd.R k71 71 wc w.heap.size (fun k_ => some k_ ≠ ((.slice Ao26 t365.length co26) : Value).ownBlock ∧ some k_ ≠ ((.slice Ao38 t377.length co38) : Value).ownBlock) (.slice Ao32 t372.length co32) t372) ∧ Aside0 (Kd.R k71 71 wc w.heap.size (fun k_ => some k_ ≠ ((.slice Ao26 t365.length co26) : Value).ownBlock ∧ some k_ ≠ ((.slice Ao32 t372.length co32) : Value).ownBlock) (.slice Ao38 t377.length co38) t377) ∧ Aside0 (wc.heap[gb359]? = some (.cells #[(.slice A0_0 l0_0.length c0_0),.int .i64 a0_1] 24 (0,0))) ∧ Aside0 (wc.heap[gb371]? = some (.cells #[(.slice Ao26 t365.length co26),.int .i64 t368] 28 (0,0))) ∧ Aside0 (wc.heap[gb376]? = some (.cells #[(.slice Ao32 t372.length co32),.int .i64 t375] 28 (0,0))) ∧ Aside0 (wc.heap[gb383]? = some (.cells #[(.slice Ao38 t377.length co38),.int .i64 t380] 28 (0,0))) ∧ Aside0 (Below w.heap.size w wc))
    case first =>
     have H := HC17.out
     clear HC17
     replace H := Option.bind_eq_some_iff.mp H
     obtain ⟨t384,A430,H⟩ := H
     try dsimp only at H
     have A43 := Aside0.mk A430
     clear A430
     by_cases c44 : t384 = true
     ·subst c44
      rw [if_pos rfl] at H
      by_cases c45 : t381 = t369
      ·rw [if_pos c45] at H
       have c45b0 : (t381 == t369) = true := beq_iff_eq.mpr c45
       have c45b1 : (t381 != t369) = false := bne_eq_false_iff_eq.mpr c45
       clear c45
       (first | rw [c45b0] | (simp only [i64_w,i32_w]; rw [c45b0]) | skip)
       have H' := Aside0.mk H
       clear H
       have hnb46 := NB383_359.out
       have hnc46 := NB359_383.out
       have hnb47 := NB383_371.out
       have hnc47 := NB371_383.out
       have hnb48 := NB383_376.out
       have hnc48 := NB376_383.out
       have hcz49_0 : w37.cell? ⟨gb383,0,none⟩ = some (.slice none 0 0) := (blk_cell BK383.out 0).trans rfl
       have hcz49_1 : w37.cell? ⟨gb383,1,none⟩ = some (.int .i64 0) := (blk_cell BK383.out 1).trans rfl
       have hfz49_0 := blk_frozen BK383.out 0
       have hfz49_1 := blk_frozen BK383.out 1
       have hnb50 := NB371_359.out
       have hnc50 := NB359_371.out
       have hnb51 := NB371_376.out
       have hnc51 := NB376_371.out
       have hcz52_0 : w37.cell? ⟨gb371,0,none⟩ = some (.slice Ao26 t365.length co26) := (blk_cell BK371.out 0).trans rfl
       have hcz52_1 : w37.cell? ⟨gb371,1,none⟩ = some (.int .i64 t368) := (blk_cell BK371.out 1).trans rfl
       have hfz52_0 := blk_frozen BK371.out 0
       have hfz52_1 := blk_frozen BK371.out 1
       go_wp2_with (first | ((with_reducible refine gate_callee (f:=11) rfl ?_); refine goesL_ (some 53) rfl rfl Try.func11 (by kernel_rfl) rfl #[.agg #[.slice Ao38 t377.length co38,.int .i64 t380],.agg #[.slice Ao26 t365.length co26,.int .i64 t368]] rfl mA ?_; (with_reducible refine (laws_eqStore.calls k _ _ t377 t380 _ _ t365 t368 true _ ?side1 ?side2 ?side3 ?side4 A43.out).mono ?_); (case side1 => refine (Kd.R_reads' (e:=71) (base := w.heap.size) (ok := fun k_ => (((True ∧ some k_ ≠ (.slice Ao23 t361.length co23 : Value).ownBlock) ∧ some k_ ≠ (.slice Ao26 t365.length co26 : Value).ownBlock) ∧ some k_ ≠ (.slice Ao32 t372.length co32 : Value).ownBlock)) (n:=t377.length) (c:=co38) ?_).2.2; exact (by (with_reducible repeat (first | apply Kd.R_alloc | apply Kd.R_drewN | apply Kd.R_drew)); exact (Kd.R_mono (Kd.R_far (p:=⟨gb383,1,none⟩) (Kd.R_far (p:=⟨gb383,0,none⟩) (Kd.R_types HO379.out BK383.out (by decide)) (fun _ hk => hk.2) (.slice Ao38 t377.length co38)) (fun _ hk => hk.2) (.int .i64 t380)) (fun _ h_ => h_.1)))); (case side2 => exact (Kd.R_reads' HO379.out).2.1); (case side3 => refine (Kd.R_reads' (e:=71) (base := w.heap.size) (ok := fun k_ => (((True ∧ some k_ ≠ (.slice Ao23 t361.length co23 : Value).ownBlock) ∧ some k_ ≠ (.slice Ao32 t372.length co32 : Value).ownBlock) ∧ some k_ ≠ (.slice Ao38 t377.length co38 : Value).ownBlock)) (n:=t365.length) (c:=co26) ?_).2.2; exact (by (with_reducible repeat (first | apply Kd.R_alloc | apply Kd.R_drewN | apply Kd.R_drew)); exact (Kd.R_mono (Kd.R_far (p:=⟨gb383,1,none⟩) (Kd.R_far (p:=⟨gb383,0,none⟩) (Kd.R_types HO367.out BK383.out (by decide)) (fun _ hk => hk.2) (.slice Ao38 t377.length co38)) (fun _ hk => hk.2) (.int .i64 t380)) (fun _ h_ => h_.1)))); (case side4 => exact (Kd.R_reads' HO367.out).2.1); rintro e w53 ⟨rfl,hb⟩; refine ⟨_,rfl,?_⟩; have n0_ := Aside0.mk (Kd.R_below (by (with_reducible repeat (first | apply Kd.R_alloc | apply Kd.R_drewN | apply Kd.R_drew)); exact (Kd.R_mono (Kd.R_far (p:=⟨gb383,1,none⟩) (Kd.R_far (p:=⟨gb383,0,none⟩) (Kd.R_types HO363.out BK383.out (by decide)) (fun _ hk => hk.2) (.slice Ao38 t377.length co38)) (fun _ hk => hk.2) (.int .i64 t380)) (fun _ h_ => h_.1))) hb); have n1_ := Aside0.mk (Kd.R_below (by (with_reducible repeat (first | apply Kd.R_alloc | apply Kd.R_drewN | apply Kd.R_drew)); exact (Kd.R_mono (Kd.R_far (p:=⟨gb383,1,none⟩) (Kd.R_far (p:=⟨gb383,0,none⟩) (Kd.R_types HO367.out BK383.out (by decide)) (fun _ hk => hk.2) (.slice Ao38 t377.length co38)) (fun _ hk => hk.2) (.int .i64 t380)) (fun _ h_ => h_.1))) hb); have n2_ := Aside0.mk (Kd.R_below (by (with_reducible repeat (first | apply Kd.R_alloc | apply Kd.R_drewN | apply Kd.R_drew)); exact (Kd.R_mono (Kd.R_far (p:=⟨gb383,1,none⟩) (Kd.R_far (p:=⟨gb383,0,none⟩) (Kd.R_types HO374.out BK383.out (by decide)) (fun _ hk => hk.2) (.slice Ao38 t377.length co38)) (fun _ hk => hk.2) (.int .i64 t380)) (fun _ h_ => h_.1))) hb); have n3_ := Aside0.mk (Kd.R_below (by (with_reducible repeat (first | apply Kd.R_alloc | apply Kd.R_drewN | apply Kd.R_drew)); exact (Kd.R_mono (Kd.R_far (p:=⟨gb383,1,none⟩) (Kd.R_far (p:=⟨gb383,0,none⟩) (Kd.R_types HO379.out BK383.out (by decide)) (fun _ hk => hk.2) (.slice Ao38 t377.length co38)) (fun _ hk => hk.2) (.int .i64 t380)) (fun _ h_ => h_.1))) hb); have n4_ := Aside0.mk (blk_below (g:=gb359) (o:=.cells #[.slice A0_0 l0_0.length c0_0,.int .i64 a0_1] 24 (0,0)) (kF BK359.out) hb); have n5_ := Aside0.mk (blk_below (g:=gb371) (o:=.cells #[.slice Ao26 t365.length co26,.int .i64 t368] 28 (0,0)) (kF BK371.out) hb); have n6_ := Aside0.mk (blk_below (g:=gb376) (o:=.cells #[.slice Ao32 t372.length co32,.int .i64 t375] 28 (0,0)) (kF BK376.out) hb); have n7_ := Aside0.mk (blk_below (g:=gb383) (o:=.cells #[.slice Ao38 t377.length co38,.int .i64 t380] 28 (0,0)) (by (with_reducible repeat (first | refine blk_drewN ?_ _ | refine blk_drew ?_ | refine blk_alloc ?_ _)); refine blk_put (cs := #[.slice Ao38 t377.length co38,.int .i64 0]) ?_ 1 _ rfl; (with_reducible repeat (first | refine blk_drewN ?_ _ | refine blk_drew ?_ | refine blk_alloc ?_ _)); refine blk_put (cs := #[.slice none 0 0,.int .i64 0]) ?_ 0 _ rfl; (with_reducible repeat (first | refine blk_drewN ?_ _ | refine blk_drew ?_ | refine blk_alloc ?_ _)); exact BK383.out) hb); have n8_ := Aside0.mk (below_step bA hb); clear HO363; clear HO367; clear HO374; clear HO379; clear BK359; clear BK371; clear BK376; clear BK383; clear HB; have HO363 := n0_; have HO367 := n1_; have HO374 := n2_; have HO379 := n3_; have BK359 := n4_; have BK371 := n5_; have BK376 := n6_; have BK383 := n7_; have HB := n8_; clear n0_ n1_ n2_ n3_ n4_ n5_ n6_ n7_ n8_; (try clear hb); (try clear hb2); (try clear hk); (try clear hi)))
       go_meet
       case rel => exact ⟨_,((t382 != t370)),(by first | rfl | (simp; done) | (simp [*]; done)),H',⟨by first | omega | exact Nat.le_refl _⟩,⟨by (with_reducible repeat (first | apply Kd.R_alloc | apply Kd.R_drewN | apply Kd.R_drew)); exact Kd.R_mono HO367.out (fun _ hk => ⟨hk.1.2,hk.2⟩)⟩,⟨by (with_reducible repeat (first | apply Kd.R_alloc | apply Kd.R_drewN | apply Kd.R_drew)); exact Kd.R_mono HO374.out (fun _ hk => ⟨hk.1.2,hk.2⟩)⟩,⟨by (with_reducible repeat (first | apply Kd.R_alloc | apply Kd.R_drewN | apply Kd.R_drew)); exact Kd.R_mono HO379.out (fun _ hk => ⟨hk.1.2,hk.2⟩)⟩,⟨kA BK359.out⟩,⟨kA BK371.out⟩,⟨kA BK376.out⟩,⟨kA BK383.out⟩,⟨bA⟩⟩
      ·rw [if_neg c45] at H
       have c45b0 : (t381 == t369) = false := beq_eq_false_iff_ne.mpr c45
       have c45b1 : (t381 != t369) = true := bne_iff_ne.mpr c45
       (first | rw [c45b0] | (simp only [i64_w,i32_w]; rw [c45b0]) | skip)
       have H' := Aside0.mk H
       clear H
       have hnb54 := NB383_359.out
       have hnc54 := NB359_383.out
       have hnb55 := NB383_371.out
       have hnc55 := NB371_383.out
       have hnb56 := NB383_376.out
       have hnc56 := NB376_383.out
       have hcz57_0 : w37.cell? ⟨gb383,0,none⟩ = some (.slice none 0 0) := (blk_cell BK383.out 0).trans rfl
       have hcz57_1 : w37.cell? ⟨gb383,1,none⟩ = some (.int .i64 0) := (blk_cell BK383.out 1).trans rfl
       have hfz57_0 := blk_frozen BK383.out 0
       have hfz57_1 := blk_frozen BK383.out 1
       have hnb58 := NB371_359.out
       have hnc58 := NB359_371.out
       have hnb59 := NB371_376.out
       have hnc59 := NB376_371.out
       have hcz60_0 : w37.cell? ⟨gb371,0,none⟩ = some (.slice Ao26 t365.length co26) := (blk_cell BK371.out 0).trans rfl
       have hcz60_1 : w37.cell? ⟨gb371,1,none⟩ = some (.int .i64 t368) := (blk_cell BK371.out 1).trans rfl
       have hfz60_0 := blk_frozen BK371.out 0
       have hfz60_1 := blk_frozen BK371.out 1
       go_wp2_with (first | ((with_reducible refine gate_callee (f:=11) rfl ?_); refine goesL_ (some 53) rfl rfl Try.func11 (by kernel_rfl) rfl #[.agg #[.slice Ao38 t377.length co38,.int .i64 t380],.agg #[.slice Ao26 t365.length co26,.int .i64 t368]] rfl mA ?_; (with_reducible refine (laws_eqStore.calls k _ _ t377 t380 _ _ t365 t368 true _ ?side1 ?side2 ?side3 ?side4 A43.out).mono ?_); (case side1 => refine (Kd.R_reads' (e:=71) (base := w.heap.size) (ok := fun k_ => (((True ∧ some k_ ≠ (.slice Ao23 t361.length co23 : Value).ownBlock) ∧ some k_ ≠ (.slice Ao26 t365.length co26 : Value).ownBlock) ∧ some k_ ≠ (.slice Ao32 t372.length co32 : Value).ownBlock)) (n:=t377.length) (c:=co38) ?_).2.2; exact (by (with_reducible repeat (first | apply Kd.R_alloc | apply Kd.R_drewN | apply Kd.R_drew)); exact (Kd.R_mono (Kd.R_far (p:=⟨gb383,1,none⟩) (Kd.R_far (p:=⟨gb383,0,none⟩) (Kd.R_types HO379.out BK383.out (by decide)) (fun _ hk => hk.2) (.slice Ao38 t377.length co38)) (fun _ hk => hk.2) (.int .i64 t380)) (fun _ h_ => h_.1)))); (case side2 => exact (Kd.R_reads' HO379.out).2.1); (case side3 => refine (Kd.R_reads' (e:=71) (base := w.heap.size) (ok := fun k_ => (((True ∧ some k_ ≠ (.slice Ao23 t361.length co23 : Value).ownBlock) ∧ some k_ ≠ (.slice Ao32 t372.length co32 : Value).ownBlock) ∧ some k_ ≠ (.slice Ao38 t377.length co38 : Value).ownBlock)) (n:=t365.length) (c:=co26) ?_).2.2; exact (by (with_reducible repeat (first | apply Kd.R_alloc | apply Kd.R_drewN | apply Kd.R_drew)); exact (Kd.R_mono (Kd.R_far (p:=⟨gb383,1,none⟩) (Kd.R_far (p:=⟨gb383,0,none⟩) (Kd.R_types HO367.out BK383.out (by decide)) (fun _ hk => hk.2) (.slice Ao38 t377.length co38)) (fun _ hk => hk.2) (.int .i64 t380)) (fun _ h_ => h_.1)))); (case side4 => exact (Kd.R_reads' HO367.out).2.1); rintro e w61 ⟨rfl,hb⟩; refine ⟨_,rfl,?_⟩; have n0_ := Aside0.mk (Kd.R_below (by (with_reducible repeat (first | apply Kd.R_alloc | apply Kd.R_drewN | apply Kd.R_drew)); exact (Kd.R_mono (Kd.R_far (p:=⟨gb383,1,none⟩) (Kd.R_far (p:=⟨gb383,0,none⟩) (Kd.R_types HO363.out BK383.out (by decide)) (fun _ hk => hk.2) (.slice Ao38 t377.length co38)) (fun _ hk => hk.2) (.int .i64 t380)) (fun _ h_ => h_.1))) hb); have n1_ := Aside0.mk (Kd.R_below (by (with_reducible repeat (first | apply Kd.R_alloc | apply Kd.R_drewN | apply Kd.R_drew)); exact (Kd.R_mono (Kd.R_far (p:=⟨gb383,1,none⟩) (Kd.R_far (p:=⟨gb383,0,none⟩) (Kd.R_types HO367.out BK383.out (by decide)) (fun _ hk => hk.2) (.slice Ao38 t377.length co38)) (fun _ hk => hk.2) (.int .i64 t380)) (fun _ h_ => h_.1))) hb); have n2_ := Aside0.mk (Kd.R_below (by (with_reducible repeat (first | apply Kd.R_alloc | apply Kd.R_drewN | apply Kd.R_drew)); exact (Kd.R_mono (Kd.R_far (p:=⟨gb383,1,none⟩) (Kd.R_far (p:=⟨gb383,0,none⟩) (Kd.R_types HO374.out BK383.out (by decide)) (fun _ hk => hk.2) (.slice Ao38 t377.length co38)) (fun _ hk => hk.2) (.int .i64 t380)) (fun _ h_ => h_.1))) hb); have n3_ := Aside0.mk (Kd.R_below (by (with_reducible repeat (first | apply Kd.R_alloc | apply Kd.R_drewN | apply Kd.R_drew)); exact (Kd.R_mono (Kd.R_far (p:=⟨gb383,1,none⟩) (Kd.R_far (p:=⟨gb383,0,none⟩) (Kd.R_types HO379.out BK383.out (by decide)) (fun _ hk => hk.2) (.slice Ao38 t377.length co38)) (fun _ hk => hk.2) (.int .i64 t380)) (fun _ h_ => h_.1))) hb); have n4_ := Aside0.mk (blk_below (g:=gb359) (o:=.cells #[.slice A0_0 l0_0.length c0_0,.int .i64 a0_1] 24 (0,0)) (kF BK359.out) hb); have n5_ := Aside0.mk (blk_below (g:=gb371) (o:=.cells #[.slice Ao26 t365.length co26,.int .i64 t368] 28 (0,0)) (kF BK371.out) hb); have n6_ := Aside0.mk (blk_below (g:=gb376) (o:=.cells #[.slice Ao32 t372.length co32,.int .i64 t375] 28 (0,0)) (kF BK376.out) hb); have n7_ := Aside0.mk (blk_below (g:=gb383) (o:=.cells #[.slice Ao38 t377.length co38,.int .i64 t380] 28 (0,0)) (by (with_reducible repeat (first | refine blk_drewN ?_ _ | refine blk_drew ?_ | refine blk_alloc ?_ _)); refine blk_put (cs := #[.slice Ao38 t377.length co38,.int .i64 0]) ?_ 1 _ rfl; (with_reducible repeat (first | refine blk_drewN ?_ _ | refine blk_drew ?_ | refine blk_alloc ?_ _)); refine blk_put (cs := #[.slice none 0 0,.int .i64 0]) ?_ 0 _ rfl; (with_reducible repeat (first | refine blk_drewN ?_ _ | refine blk_drew ?_ | refine blk_alloc ?_ _)); exact BK383.out) hb); have n8_ := Aside0.mk (below_step bA hb); clear HO363; clear HO367; clear HO374; clear HO379; clear BK359; clear BK371; clear BK376; clear BK383; clear HB; have HO363 := n0_; have HO367 := n1_; have HO374 := n2_; have HO379 := n3_; have BK359 := n4_; have BK371 := n5_; have BK376 := n6_; have BK383 := n7_; have HB := n8_; clear n0_ n1_ n2_ n3_ n4_ n5_ n6_ n7_ n8_; (try clear hb); (try clear hb2); (try clear hk); (try clear hi)))
       go_meet
       case rel => exact ⟨_,(true),(by first | rfl | (simp; done) | (simp [*]; done)),H',⟨by first | omega | exact Nat.le_refl _⟩,⟨by (with_reducible repeat (first | apply Kd.R_alloc | apply Kd.R_drewN | apply Kd.R_drew)); exact Kd.R_mono HO367.out (fun _ hk => ⟨hk.1.2,hk.2⟩)⟩,⟨by (with_reducible repeat (first | apply Kd.R_alloc | apply Kd.R_drewN | apply Kd.R_drew)); exact Kd.R_mono HO374.out (fun _ hk => ⟨hk.1.2,hk.2⟩)⟩,⟨by (with_reducible repeat (first | apply Kd.R_alloc | apply Kd.R_drewN | apply Kd.R_drew)); exact Kd.R_mono HO379.out (fun _ hk => ⟨hk.1.2,hk.2⟩)⟩,⟨kA BK359.out⟩,⟨kA BK371.out⟩,⟨kA BK376.out⟩,⟨kA BK383.out⟩,⟨bA⟩⟩
     ·replace c44 := Bool.eq_false_iff.mpr c44
      subst c44
      rw [if_neg (show ¬ (false = true) by decide)] at H
      have H' := Aside0.mk H
      clear H
      have hnb62 := NB383_359.out
      have hnc62 := NB359_383.out
      have hnb63 := NB383_371.out
      have hnc63 := NB371_383.out
      have hnb64 := NB383_376.out
      have hnc64 := NB376_383.out
      have hcz65_0 : w37.cell? ⟨gb383,0,none⟩ = some (.slice none 0 0) := (blk_cell BK383.out 0).trans rfl
      have hcz65_1 : w37.cell? ⟨gb383,1,none⟩ = some (.int .i64 0) := (blk_cell BK383.out 1).trans rfl
      have hfz65_0 := blk_frozen BK383.out 0
      have hfz65_1 := blk_frozen BK383.out 1
      have hnb66 := NB371_359.out
      have hnc66 := NB359_371.out
      have hnb67 := NB371_376.out
      have hnc67 := NB376_371.out
      have hcz68_0 : w37.cell? ⟨gb371,0,none⟩ = some (.slice Ao26 t365.length co26) := (blk_cell BK371.out 0).trans rfl
      have hcz68_1 : w37.cell? ⟨gb371,1,none⟩ = some (.int .i64 t368) := (blk_cell BK371.out 1).trans rfl
      have hfz68_0 := blk_frozen BK371.out 0
      have hfz68_1 := blk_frozen BK371.out 1
      go_wp2_with (first | ((with_reducible refine gate_callee (f:=11) rfl ?_); refine goesL_ (some 53) rfl rfl Try.func11 (by kernel_rfl) rfl #[.agg #[.slice Ao38 t377.length co38,.int .i64 t380],.agg #[.slice Ao26 t365.length co26,.int .i64 t368]] rfl mA ?_; (with_reducible refine (laws_eqStore.calls k _ _ t377 t380 _ _ t365 t368 false _ ?side1 ?side2 ?side3 ?side4 A43.out).mono ?_); (case side1 => refine (Kd.R_reads' (e:=71) (base := w.heap.size) (ok := fun k_ => (((True ∧ some k_ ≠ (.slice Ao23 t361.length co23 : Value).ownBlock) ∧ some k_ ≠ (.slice Ao26 t365.length co26 : Value).ownBlock) ∧ some k_ ≠ (.slice Ao32 t372.length co32 : Value).ownBlock)) (n:=t377.length) (c:=co38) ?_).2.2; exact (by (with_reducible repeat (first | apply Kd.R_alloc | apply Kd.R_drewN | apply Kd.R_drew)); exact (Kd.R_mono (Kd.R_far (p:=⟨gb383,1,none⟩) (Kd.R_far (p:=⟨gb383,0,none⟩) (Kd.R_types HO379.out BK383.out (by decide)) (fun _ hk => hk.2) (.slice Ao38 t377.length co38)) (fun _ hk => hk.2) (.int .i64 t380)) (fun _ h_ => h_.1)))); (case side2 => exact (Kd.R_reads' HO379.out).2.1); (case side3 => refine (Kd.R_reads' (e:=71) (base := w.heap.size) (ok := fun k_ => (((True ∧ some k_ ≠ (.slice Ao23 t361.length co23 : Value).ownBlock) ∧ some k_ ≠ (.slice Ao32 t372.length co32 : Value).ownBlock) ∧ some k_ ≠ (.slice Ao38 t377.length co38 : Value).ownBlock)) (n:=t365.length) (c:=co26) ?_).2.2; exact (by (with_reducible repeat (first | apply Kd.R_alloc | apply Kd.R_drewN | apply Kd.R_drew)); exact (Kd.R_mono (Kd.R_far (p:=⟨gb383,1,none⟩) (Kd.R_far (p:=⟨gb383,0,none⟩) (Kd.R_types HO367.out BK383.out (by decide)) (fun _ hk => hk.2) (.slice Ao38 t377.length co38)) (fun _ hk => hk.2) (.int .i64 t380)) (fun _ h_ => h_.1)))); (case side4 => exact (Kd.R_reads' HO367.out).2.1); rintro e w69 ⟨rfl,hb⟩; refine ⟨_,rfl,?_⟩; have n0_ := Aside0.mk (Kd.R_below (by (with_reducible repeat (first | apply Kd.R_alloc | apply Kd.R_drewN | apply Kd.R_drew)); exact (Kd.R_mono (Kd.R_far (p:=⟨gb383,1,none⟩) (Kd.R_far (p:=⟨gb383,0,none⟩) (Kd.R_types HO363.out BK383.out (by decide)) (fun _ hk => hk.2) (.slice Ao38 t377.length co38)) (fun _ hk => hk.2) (.int .i64 t380)) (fun _ h_ => h_.1))) hb); have n1_ := Aside0.mk (Kd.R_below (by (with_reducible repeat (first | apply Kd.R_alloc | apply Kd.R_drewN | apply Kd.R_drew)); exact (Kd.R_mono (Kd.R_far (p:=⟨gb383,1,none⟩) (Kd.R_far (p:=⟨gb383,0,none⟩) (Kd.R_types HO367.out BK383.out (by decide)) (fun _ hk => hk.2) (.slice Ao38 t377.length co38)) (fun _ hk => hk.2) (.int .i64 t380)) (fun _ h_ => h_.1))) hb); have n2_ := Aside0.mk (Kd.R_below (by (with_reducible repeat (first | apply Kd.R_alloc | apply Kd.R_drewN | apply Kd.R_drew)); exact (Kd.R_mono (Kd.R_far (p:=⟨gb383,1,none⟩) (Kd.R_far (p:=⟨gb383,0,none⟩) (Kd.R_types HO374.out BK383.out (by decide)) (fun _ hk => hk.2) (.slice Ao38 t377.length co38)) (fun _ hk => hk.2) (.int .i64 t380)) (fun _ h_ => h_.1))) hb); have n3_ := Aside0.mk (Kd.R_below (by (with_reducible repeat (first | apply Kd.R_alloc | apply Kd.R_drewN | apply Kd.R_drew)); exact (Kd.R_mono (Kd.R_far (p:=⟨gb383,1,none⟩) (Kd.R_far (p:=⟨gb383,0,none⟩) (Kd.R_types HO379.out BK383.out (by decide)) (fun _ hk => hk.2) (.slice Ao38 t377.length co38)) (fun _ hk => hk.2) (.int .i64 t380)) (fun _ h_ => h_.1))) hb); have n4_ := Aside0.mk (blk_below (g:=gb359) (o:=.cells #[.slice A0_0 l0_0.length c0_0,.int .i64 a0_1] 24 (0,0)) (kF BK359.out) hb); have n5_ := Aside0.mk (blk_below (g:=gb371) (o:=.cells #[.slice Ao26 t365.length co26,.int .i64 t368] 28 (0,0)) (kF BK371.out) hb); have n6_ := Aside0.mk (blk_below (g:=gb376) (o:=.cells #[.slice Ao32 t372.length co32,.int .i64 t375] 28 (0,0)) (kF BK376.out) hb); have n7_ := Aside0.mk (blk_below (g:=gb383) (o:=.cells #[.slice Ao38 t377.length co38,.int .i64 t380] 28 (0,0)) (by (with_reducible repeat (first | refine blk_drewN ?_ _ | refine blk_drew ?_ | refine blk_alloc ?_ _)); refine blk_put (cs := #[.slice Ao38 t377.length co38,.int .i64 0]) ?_ 1 _ rfl; (with_reducible repeat (first | refine blk_drewN ?_ _ | refine blk_drew ?_ | refine blk_alloc ?_ _)); refine blk_put (cs := #[.slice none 0 0,.int .i64 0]) ?_ 0 _ rfl; (with_reducible repeat (first | refine blk_drewN ?_ _ | refine blk_drew ?_ | refine blk_alloc ?_ _)); exact BK383.out) hb); have n8_ := Aside0.mk (below_step bA hb); clear HO363; clear HO367; clear HO374; clear HO379; clear BK359; clear BK371; clear BK376; clear BK383; clear HB; have HO363 := n0_; have HO367 := n1_; have HO374 := n2_; have HO379 := n3_; have BK359 := n4_; have BK371 := n5_; have BK376 := n6_; have BK383 := n7_; have HB := n8_; clear n0_ n1_ n2_ n3_ n4_ n5_ n6_ n7_ n8_; (try clear hb); (try clear hb2); (try clear hk); (try clear hi)))
      go_meet
      case rel => exact ⟨_,(true),(by first | rfl | (simp; done) | (simp [*]; done)),H',⟨by first | omega | exact Nat.le_refl _⟩,⟨by (with_reducible repeat (first | apply Kd.R_alloc | apply Kd.R_drewN | apply Kd.R_drew)); exact Kd.R_mono HO367.out (fun _ hk => ⟨hk.1.2,hk.2⟩)⟩,⟨by (with_reducible repeat (first | apply Kd.R_alloc | apply Kd.R_drewN | apply Kd.R_drew)); exact Kd.R_mono HO374.out (fun _ hk => ⟨hk.1.2,hk.2⟩)⟩,⟨by (with_reducible repeat (first | apply Kd.R_alloc | apply Kd.R_drewN | apply Kd.R_drew)); exact Kd.R_mono HO379.out (fun _ hk => ⟨hk.1.2,hk.2⟩)⟩,⟨kA BK359.out⟩,⟨kA BK371.out⟩,⟨kA BK376.out⟩,⟨kA BK383.out⟩,⟨bA⟩⟩
    case rest =>
     clear HC17
     try clear c1
     try clear c2
     try clear p2
     try clear c3
     try clear c4
     try clear c4b0
     try clear c4b1
     try clear c5
     try clear c6
     try clear c6b0
     try clear c6b1
     try clear c7
     try clear c9
     try clear c9b0
     try clear c11
     try clear c19
     try clear c20
     try clear c27
     try clear c33
     try clear c34
     try clear c39
     try clear c40
     try clear c41
     try clear c44
     try clear c45
     try clear c45b0
     try clear c45b1
     try clear c46
     try clear c47
     try clear c48
     try clear c50
     try clear c51
     try clear c54
     try clear c55
     try clear c56
     try clear c58
     try clear c59
     try clear c62
     try clear c63
     try clear c64
     try clear c66
     try clear c67
     try clear hcz11_0
     try clear hcz11_1
     try clear hcz19_0
     try clear hcz19_1
     try clear hcz21_0
     try clear hcz21_1
     try clear hcz28_0
     try clear hcz28_1
     try clear hcz29_0
     try clear hcz29_1
     try clear hcz35_0
     try clear hcz35_1
     try clear hcz42_0
     try clear hcz42_1
     try clear hcz49_0
     try clear hcz49_1
     try clear hcz52_0
     try clear hcz52_1
     try clear hcz57_0
     try clear hcz57_1
     try clear hcz60_0
     try clear hcz60_1
     try clear hcz65_0
     try clear hcz65_1
     try clear hcz68_0
     try clear hcz68_1
     try clear hfz11_0
     try clear hfz11_1
     try clear hfz19_0
     try clear hfz19_1
     try clear hfz21_0
     try clear hfz21_1
     try clear hfz28_0
     try clear hfz28_1
     try clear hfz29_0
     try clear hfz29_1
     try clear hfz35_0
     try clear hfz35_1
     try clear hfz42_0
     try clear hfz42_1
     try clear hfz49_0
     try clear hfz49_1
     try clear hfz52_0
     try clear hfz52_1
     try clear hfz57_0
     try clear hfz57_1
     try clear hfz60_0
     try clear hfz60_1
     try clear hfz65_0
     try clear hfz65_1
     try clear hfz68_0
     try clear hfz68_1
     obtain ⟨kq,x64_16,rfl,HA,HJ16,HO_372000,HO_377000,HO_384000,BK359,BK371,BK376,BK383,HB⟩ := hcut
     cases kq with
     | zero => exact absurd HA.out (by simp [laws_FnExactPutAbsent.j0])
     | succ kj16 =>
      have H := HA.out
      clear HA
      simp only [laws_FnExactPutAbsent.j0] at H
      by_cases c70 : x64_16 = true
      ·subst c70
       rw [if_pos rfl] at H
       exact absurd H (by simp)
      ·replace c70 := Bool.eq_false_iff.mpr c70
       subst c70
       rw [if_neg (show ¬ (false = true) by decide)] at H
       replace H := Option.bind_eq_some_iff.mp H
       obtain ⟨⟨t385,t388⟩,A710,H⟩ := H
       try dsimp only at H
       have A71 := Aside0.mk A710
       clear A710
       replace H := Option.bind_eq_some_iff.mp H
       obtain ⟨t389,A720,H⟩ := H
       try dsimp only at H
       have A72 := Aside0.mk A720
       clear A720
       by_cases c73 : t389 = true
       ·subst c73
        rw [if_pos rfl] at H
        replace H := Option.bind_eq_some_iff.mp H
        obtain ⟨⟨t390,t391⟩,A740,H⟩ := H
        try dsimp only at H
        have A74 := Aside0.mk A740
        clear A740
        have HC75 := Aside0.mk H
        clear H
        try go_wp2
        have n0_ := Aside0.mk (Kd.R_drew HO_372000.out)
        have n1_ := Aside0.mk (Kd.R_drew HO_377000.out)
        have n2_ := Aside0.mk (Kd.R_drew HO_384000.out)
        have n3_ := Aside0.mk (blk_drew BK359.out)
        have n4_ := Aside0.mk (blk_drew BK371.out)
        have n5_ := Aside0.mk (blk_drew BK376.out)
        have n6_ := Aside0.mk (blk_drew BK383.out)
        have n7_ := Aside0.mk (below_drew1 HB.out)
        clear HO_372000
        clear HO_377000
        clear HO_384000
        clear BK359
        clear BK371
        clear BK376
        clear BK383
        clear HB
        have HO_372000 := n0_
        have HO_377000 := n1_
        have HO_384000 := n2_
        have BK359 := n3_
        have BK371 := n4_
        have BK376 := n5_
        have BK383 := n6_
        have HB := n7_
        clear n0_ n1_ n2_ n3_ n4_ n5_ n6_ n7_
        refine start_ (n:=5) (S:=fun w' => w'.cell? ⟨gb376,0,none⟩ = some (.slice Ao32 t372.length co32) ∧ w'.cell? ⟨gb376,1,none⟩ = some (.int .i64 t375) ∧ w'.cell? ⟨gb359,0,none⟩ = some (.slice A0_0 l0_0.length c0_0) ∧ w'.cell? ⟨gb359,1,none⟩ = some (.int .i64 a0_1)) (ds := []) (bm 5 0) (by kernel_rfl) rfl rfl ⟨(blk_cell BK376.out 0).trans rfl,(blk_cell BK376.out 1).trans rfl,(blk_cell BK359.out 0).trans rfl,(blk_cell BK359.out 1).trans rfl⟩ (fun hHeld => ?_)
        generalize wc.drew = w76 at HO_372000 HO_377000 HO_384000 BK359 BK371 BK376 BK383 HB hHeld ⊢
        refine take_ (i:=0) (N:=some 65) (v:=?_) (a':=?_) (bm 5 1) rfl rfl (by kernel_rfl) (fun _ _ _ h => h) (Or.inl ⟨by rfl,?_⟩) hHeld ?_ ?_
        rotate_left
        ·rintro w' ⟨s0,s1,s2,s3⟩
         go_simp
         with_reducible rfl
        rotate_left
        ·simp only [Act.put,setIfInBounds_toArray,set_cons_zero,set_cons_succ,i64_w,i32_w]
         rfl
        refine take_ (i:=1) (N:=some 66) (v:=?_) (a':=?_) (bm 5 3) rfl rfl (by kernel_rfl) (fun _ _ _ h => h) (Or.inl ⟨by rfl,?_⟩) hHeld ?_ ?_
        rotate_left
        ·rintro w' ⟨s0,s1,s2,s3⟩
         go_simp
         with_reducible rfl
        rotate_left
        ·simp only [Act.put,setIfInBounds_toArray,set_cons_zero,set_cons_succ,i64_w,i32_w]
         rfl
        refine one_ (i:=2) (N:=some 67) (bm 5 7) rfl rfl (by kernel_rfl) (by decide) (fun K hK => ?_)
        refine goes_ Try.func9 (by kernel_rfl) rfl #[.agg #[.slice A0_0 l0_0.length c0_0,.int .i64 a0_1]] (by rfl) rfl rfl mA ?_
        with_reducible refine (laws_toStore.calls kj16 _ _ l0_0 a0_1 t385 t388 _ ?side1 ?side2 A71.out).mono ?_
        (case side1 => repeat (first | exact (Kd.C_below HR0_0.out HB.out) | (with_reducible refine Kd.C_alloc ?_ _) | (with_reducible refine Kd.C_drewN ?_ _) | (with_reducible refine Kd.C_drew ?_)))
        (case side2 => exact HC0_0.out)
        rintro e w77 ⟨v386,rfl,ho0,hb⟩
        refine ⟨_,rfl,?_⟩
        have n0_ := Aside0.mk (Kd.R_elder' (rA HO_372000.out) (Kd.R_base ho0) hb)
        have n1_ := Aside0.mk (Kd.R_elder' (rA HO_377000.out) (Kd.R_base ho0) hb)
        have n2_ := Aside0.mk (Kd.R_elder' (rA HO_384000.out) (Kd.R_base ho0) hb)
        have n3_ := Aside0.mk (Kd.R_lower (Kd.R_new' (Kd.R_new' (Kd.R_new' ho0 (Kd.R_lt (rA HO_372000.out))) (Kd.R_lt (rA HO_377000.out))) (Kd.R_lt (rA HO_384000.out))) (below_size bA))
        have n4_ := Aside0.mk (blk_below (g:=gb359) (o:=.cells #[.slice A0_0 l0_0.length c0_0,.int .i64 a0_1] 24 (0,0)) (kA BK359.out) hb)
        have n5_ := Aside0.mk (blk_below (g:=gb371) (o:=.cells #[.slice Ao26 t365.length co26,.int .i64 t368] 28 (0,0)) (kA BK371.out) hb)
        have n6_ := Aside0.mk (blk_below (g:=gb376) (o:=.cells #[.slice Ao32 t372.length co32,.int .i64 t375] 28 (0,0)) (kA BK376.out) hb)
        have n7_ := Aside0.mk (blk_below (g:=gb383) (o:=.cells #[.slice Ao38 t377.length co38,.int .i64 t380] 28 (0,0)) (kA BK383.out) hb)
        have n8_ := Aside0.mk (below_step bA hb)
        clear HO_372000
        clear HO_377000
        clear HO_384000
        clear BK359
        clear BK371
        clear BK376
        clear BK383
        clear HB
        have HO_372000 := n0_
        have HO_377000 := n1_
        have HO_384000 := n2_
        have HO387 := n3_
        have BK359 := n4_
        have BK371 := n5_
        have BK376 := n6_
        have BK383 := n7_
        have HB := n8_
        clear n0_ n1_ n2_ n3_ n4_ n5_ n6_ n7_ n8_
        (try clear hb)
        (try clear hb2)
        (try clear hk)
        (try clear hi)
        (try clear ho0)
        obtain ⟨Ao78,co78,eo78⟩ := Kd.R_slice HO387.out
        (first | subst eo78 | (injection eo78 with f1_ f2_ f3_; have f4_ := f1_.symm; have f5_ := f3_.symm; clear f1_ f2_ f3_; subst f4_; subst f5_))
        refine hK.out _ _ ⟨(blk_cell BK376.out 0).trans rfl,(blk_cell BK376.out 1).trans rfl,(blk_cell BK359.out 0).trans rfl,(blk_cell BK359.out 1).trans rfl⟩ (fun hHeld => ?_)
        clear hK K
        refine norm_ (a':=?_) ?_ ?_
        rotate_left
        ·show Act.put _ (some 67) _ = _
         simp only [Act.put,setIfInBounds_toArray,set_cons_zero,set_cons_succ,i64_w,i32_w]
         rfl
        refine one_ (i:=3) (N:=some 68) (bm 5 15) rfl rfl (by kernel_rfl) (by decide) (fun K hK => ?_)
        refine goes_ Try.func11 (by kernel_rfl) rfl #[.agg #[.slice Ao32 t372.length co32,.int .i64 t375],.agg #[.slice Ao78 t385.length co78,.int .i64 t388]] (by rfl) rfl rfl mA ?_
        with_reducible refine (laws_eqStore.calls kj16 _ _ t372 t375 _ _ t385 t388 true _ ?side1 ?side2 ?side3 ?side4 A72.out).mono ?_
        (case side1 => repeat (first | exact (Kd.R_reads' HO_377000.out).2.2 | (with_reducible refine Kd.C_alloc ?_ _) | (with_reducible refine Kd.C_drewN ?_ _) | (with_reducible refine Kd.C_drew ?_)))
        (case side2 => exact (Kd.R_reads' HO_377000.out).2.1)
        (case side3 => repeat (first | exact (Kd.R_reads' HO387.out).2.2 | (with_reducible refine Kd.C_alloc ?_ _) | (with_reducible refine Kd.C_drewN ?_ _) | (with_reducible refine Kd.C_drew ?_)))
        (case side4 => exact (Kd.R_reads' HO387.out).2.1)
        rintro e w79 ⟨rfl,hb⟩
        refine ⟨_,rfl,?_⟩
        have n0_ := Aside0.mk (Kd.R_below (rA HO_372000.out) hb)
        have n1_ := Aside0.mk (Kd.R_below (rA HO_377000.out) hb)
        have n2_ := Aside0.mk (Kd.R_below (rA HO_384000.out) hb)
        have n3_ := Aside0.mk (Kd.R_below (rA HO387.out) hb)
        have n4_ := Aside0.mk (blk_below (g:=gb359) (o:=.cells #[.slice A0_0 l0_0.length c0_0,.int .i64 a0_1] 24 (0,0)) (kA BK359.out) hb)
        have n5_ := Aside0.mk (blk_below (g:=gb371) (o:=.cells #[.slice Ao26 t365.length co26,.int .i64 t368] 28 (0,0)) (kA BK371.out) hb)
        have n6_ := Aside0.mk (blk_below (g:=gb376) (o:=.cells #[.slice Ao32 t372.length co32,.int .i64 t375] 28 (0,0)) (kA BK376.out) hb)
        have n7_ := Aside0.mk (blk_below (g:=gb383) (o:=.cells #[.slice Ao38 t377.length co38,.int .i64 t380] 28 (0,0)) (kA BK383.out) hb)
        have n8_ := Aside0.mk (below_step bA hb)
        clear HO_372000
        clear HO_377000
        clear HO_384000
        clear HO387
        clear BK359
        clear BK371
        clear BK376
        clear BK383
        clear HB
        have HO_372000 := n0_
        have HO_377000 := n1_
        have HO_384000 := n2_
        have HO387 := n3_
        have BK359 := n4_
        have BK371 := n5_
        have BK376 := n6_
        have BK383 := n7_
        have HB := n8_
        clear n0_ n1_ n2_ n3_ n4_ n5_ n6_ n7_ n8_
        (try clear hb)
        (try clear hb2)
        (try clear hk)
        (try clear hi)
        refine hK.out _ _ ⟨(blk_cell BK376.out 0).trans rfl,(blk_cell BK376.out 1).trans rfl,(blk_cell BK359.out 0).trans rfl,(blk_cell BK359.out 1).trans rfl⟩ (fun hHeld => ?_)
        clear hK K
        refine norm_ (a':=?_) ?_ ?_
        rotate_left
        ·show Act.put _ (some 68) _ = _
         simp only [Act.put,setIfInBounds_toArray,set_cons_zero,set_cons_succ,i64_w,i32_w]
         rfl
        refine pure_ (i:=4) (N:=some 69) (v:=?_) (a':=?_) (bm 5 31) rfl rfl (by kernel_rfl) (fun _ _ _ h => h) (Or.inl ⟨by rfl,?_⟩) ?_ ?_
        rotate_left
        ·intro w'
         go_simp
         with_reducible rfl
        rotate_left
        ·simp only [Act.put,setIfInBounds_toArray,set_cons_zero,set_cons_succ,i64_w,i32_w]
         rfl
        refine done_ (by kernel_rfl) ?_
        have hnb80 := NB376_359.out
        have hnc80 := NB359_376.out
        have hnb81 := NB376_371.out
        have hnc81 := NB371_376.out
        have hnb82 := NB376_383.out
        have hnc82 := NB383_376.out
        have hcz83_0 : w79.cell? ⟨gb376,0,none⟩ = some (.slice Ao32 t372.length co32) := (blk_cell BK376.out 0).trans rfl
        have hcz83_1 : w79.cell? ⟨gb376,1,none⟩ = some (.int .i64 t375) := (blk_cell BK376.out 1).trans rfl
        have hfz83_0 := blk_frozen BK376.out 0
        have hfz83_1 := blk_frozen BK376.out 1
        go_upto_region 18 with (first | ((with_reducible refine gate_callee (f:=12) rfl ?_); refine goesL_ (some 72) rfl rfl Try.func12 (by kernel_rfl) rfl #[.agg #[.slice Ao32 t372.length co32,.int .i64 t375],.int .i64 1] rfl mA ?_; (with_reducible refine (laws_markStore.calls kj16 (fun k_ => some k_ = (.slice Ao32 t372.length co32 : Value).ownBlock) (.slice Ao32 t372.length co32) t372 t375 1 t390 t391 w _ ?side1 ?side2 A74.out).mono ?_); (case side1 => exact bA); (case side2 => exact Kd.R_tight rfl HO_377000.out); rintro e w84 ⟨rfl,hy0,hb,hkp⟩; refine ⟨_,rfl,?_⟩; have n0_ := Aside0.mk (Kd.R_mono (ok' := fun k_ => some k_ ≠ (.slice Ao32 t372.length co32 : Value).ownBlock ∧ some k_ ≠ (.slice Ao38 t377.length co38 : Value).ownBlock ∧ some k_ ≠ (.slice Ao78 t385.length co78 : Value).ownBlock) (Kd.R_keptB (HO_372000.out) hkp (fun k_ hk_ hs_ => (hk_.1.1) hs_)) (fun k_ hk_ => ⟨hk_.1.1.1,hk_.1.1.2,hk_.1.2⟩)); have n1_ := Aside0.mk (Kd.R_reok rfl hy0 (fun k_ e_ => HO_377000.out.1 k_ e_)); have n2_ := Aside0.mk (Kd.R_mono (ok' := fun k_ => some k_ ≠ (.slice Ao26 t365.length co26 : Value).ownBlock ∧ some k_ ≠ (.slice Ao32 t372.length co32 : Value).ownBlock ∧ some k_ ≠ (.slice Ao78 t385.length co78 : Value).ownBlock) (Kd.R_keptB (HO_384000.out) hkp (fun k_ hk_ hs_ => (hk_.1.2) hs_)) (fun k_ hk_ => ⟨hk_.1.1.1,hk_.1.1.2,hk_.1.2⟩)); have n3_ := Aside0.mk (blk_kept (kA BK359.out) hkp (fun hs_ => (fun e_ => (Kd.R_ne HO_377000.out BK359.out (by decide)) e_) hs_)); have n4_ := Aside0.mk (blk_kept (kA BK371.out) hkp (fun hs_ => (fun e_ => (Kd.R_ne HO_377000.out BK371.out (by decide)) e_) hs_)); have n5_ := Aside0.mk (blk_kept (kA BK376.out) hkp (fun hs_ => (fun e_ => (Kd.R_ne HO_377000.out BK376.out (by decide)) e_) hs_)); have n6_ := Aside0.mk (blk_kept (kA BK383.out) hkp (fun hs_ => (fun e_ => (Kd.R_ne HO_377000.out BK383.out (by decide)) e_) hs_)); have n7_ := Aside0.mk (Kd.R_mono (ok' := fun k_ => some k_ ≠ (.slice Ao26 t365.length co26 : Value).ownBlock ∧ some k_ ≠ (.slice Ao32 t372.length co32 : Value).ownBlock ∧ some k_ ≠ (.slice Ao38 t377.length co38 : Value).ownBlock) (Kd.R_keptB (HO387.out) hkp (fun k_ hk_ hs_ => (hk_.1.2) hs_)) (fun k_ hk_ => ⟨hk_.1.1.1.2,hk_.1.1.2,hk_.1.2⟩)); have n8_ := Aside0.mk (hb); clear HO_372000; clear HO_377000; clear HO_384000; clear BK359; clear BK371; clear BK376; clear BK383; clear HO387; clear HB; have HO_372000 := n0_; have HO_377000 := n1_; have HO_384000 := n2_; have BK359 := n3_; have BK371 := n4_; have BK376 := n5_; have BK383 := n6_; have HO387 := n7_; have HB := n8_; clear n0_ n1_ n2_ n3_ n4_ n5_ n6_ n7_ n8_; (try clear hb); (try clear hkp); (try clear hy0)))
        (try simp only [Act.put,setIfInBounds_toArray,set_cons_zero,set_cons_succ])
        go_cut [90] (fun v90 wc => ∃ (kq : Nat) (x90_74 : Bool),v90 = .bool x90_74 ∧ Aside0 (laws_FnExactPutAbsent.j1 kq a1 a2 t369 t370 x90_74 l0_0 a0_1 t365 t368 t377 t380 = some r) ∧ Aside0 (kq ≤ kj16) ∧ Aside0 (Kd.R k71 71 wc w.heap.size (fun k_ => some k_ ≠ ((.slice Ao32 t372.length co32) : Value).ownBlock ∧ some k_ ≠ ((.slice Ao38 t377.length co38) : Value).ownBlock) (.slice Ao26 t365.length co26) t365) ∧ Aside0 (Kd.R k71 71 wc w.heap.size (fun k_ => some k_ ≠ ((.slice Ao26 t365.length co26) : Value).ownBlock ∧ some k_ ≠ ((.slice Ao38 t377.length co38) : Value).ownBlock) (.slice Ao32 t372.length co32) t391) ∧ Aside0 (Kd.R k71 71 wc w.heap.size (fun k_ => some k_ ≠ ((.slice Ao26 t365.length co26) : Value).ownBlock ∧ some k_ ≠ ((.slice Ao32 t372.length co32) : Value).ownBlock) (.slice Ao38 t377.length co38) t377) ∧ Aside0 (wc.heap[gb359]? = some (.cells #[(.slice A0_0 l0_0.length c0_0),.int .i64 a0_1] 24 (0,0))) ∧ Aside0 (wc.heap[gb371]? = some (.cells #[(.slice Ao26 t365.length co26),.int .i64 t368] 28 (0,0))) ∧ Aside0 (wc.heap[gb376]? = some (.cells #[(.slice Ao32 t372.length co32),.int .i64 t375] 28 (0,0))) ∧ Aside0 (wc.heap[gb383]? = some (.cells #[(.slice Ao38 t377.length co38),.int .i64 t380] 28 (0,0))) ∧ Aside0 (Below w.heap.size w wc))
        case first =>
         have H := HC75.out
         clear HC75
         by_cases c85 : t390 < 0
         ·rw [if_pos c85] at H
          have c85b0 : decide (t390 < 0) = true := decide_eq_true c85
          clear c85
          (first | rw [c85b0] | (simp only [i64_w,i32_w]; rw [c85b0]) | skip)
          have H' := Aside0.mk H
          clear H
          go_wp2
          go_meet
          case rel => exact ⟨_,(true),(by first | rfl | (simp; done) | (simp [*]; done)),H',⟨by have := HJ16.out; first | omega | exact Nat.le_refl _⟩,⟨by (with_reducible repeat (first | apply Kd.R_alloc | apply Kd.R_drewN | apply Kd.R_drew)); exact Kd.R_mono HO_372000.out (fun _ hk => ⟨hk.1,hk.2.1⟩)⟩,⟨by (with_reducible repeat (first | apply Kd.R_alloc | apply Kd.R_drewN | apply Kd.R_drew)); exact Kd.R_mono HO_377000.out (fun _ hk => ⟨hk.1.1,hk.1.2⟩)⟩,⟨by (with_reducible repeat (first | apply Kd.R_alloc | apply Kd.R_drewN | apply Kd.R_drew)); exact Kd.R_mono HO_384000.out (fun _ hk => ⟨hk.1,hk.2.1⟩)⟩,⟨kA BK359.out⟩,⟨kA BK371.out⟩,⟨kA BK376.out⟩,⟨kA BK383.out⟩,⟨bA⟩⟩
         ·rw [if_neg c85] at H
          have c85b0 : decide (t390 < 0) = false := decide_eq_false c85
          clear c85
          (first | rw [c85b0] | (simp only [i64_w,i32_w]; rw [c85b0]) | skip)
          replace H := Option.bind_eq_some_iff.mp H
          obtain ⟨t392,A860,H⟩ := H
          try dsimp only at H
          have A86 := Aside0.mk A860
          clear A860
          by_cases c87 : t392 = true
          ·subst c87
           rw [if_pos rfl] at H
           by_cases c88 : t381 = t369
           ·rw [if_pos c88] at H
            have c88b0 : (t381 == t369) = true := beq_iff_eq.mpr c88
            have c88b1 : (t381 != t369) = false := bne_eq_false_iff_eq.mpr c88
            clear c88
            have H' := Aside0.mk H
            clear H
            have hnb89 := NB383_359.out
            have hnc89 := NB359_383.out
            have hnb90 := NB383_371.out
            have hnc90 := NB371_383.out
            have hnb91 := NB383_376.out
            have hnc91 := NB376_383.out
            have hcz92_0 : w84.cell? ⟨gb383,0,none⟩ = some (.slice Ao38 t377.length co38) := (blk_cell BK383.out 0).trans rfl
            have hcz92_1 : w84.cell? ⟨gb383,1,none⟩ = some (.int .i64 t380) := (blk_cell BK383.out 1).trans rfl
            have hfz92_0 := blk_frozen BK383.out 0
            have hfz92_1 := blk_frozen BK383.out 1
            have hnb93 := NB371_359.out
            have hnc93 := NB359_371.out
            have hnb94 := NB371_376.out
            have hnc94 := NB376_371.out
            have hcz95_0 : w84.cell? ⟨gb371,0,none⟩ = some (.slice Ao26 t365.length co26) := (blk_cell BK371.out 0).trans rfl
            have hcz95_1 : w84.cell? ⟨gb371,1,none⟩ = some (.int .i64 t368) := (blk_cell BK371.out 1).trans rfl
            have hfz95_0 := blk_frozen BK371.out 0
            have hfz95_1 := blk_frozen BK371.out 1
            go_wp2_with (first | (go_at_call 11; (with_reducible refine (laws_eqStore.calls kj16 _ _ t377 t380 _ _ t365 t368 true _ ?side1 ?side2 ?side3 ?side4 A86.out).mono ?_); (case side1 => repeat (first | exact (Kd.R_reads' HO_384000.out).2.2 | (with_reducible refine Kd.C_alloc ?_ _) | (with_reducible refine Kd.C_drewN ?_ _) | (with_reducible refine Kd.C_drew ?_))); (case side2 => exact (Kd.R_reads' HO_384000.out).2.1); (case side3 => repeat (first | exact (Kd.R_reads' HO_372000.out).2.2 | (with_reducible refine Kd.C_alloc ?_ _) | (with_reducible refine Kd.C_drewN ?_ _) | (with_reducible refine Kd.C_drew ?_))); (case side4 => exact (Kd.R_reads' HO_372000.out).2.1); rintro e w96 ⟨rfl,hb⟩; have n0_ := Aside0.mk (Kd.R_below (rA HO_372000.out) hb); have n1_ := Aside0.mk (Kd.R_below (rA HO_377000.out) hb); have n2_ := Aside0.mk (Kd.R_below (rA HO_384000.out) hb); have n3_ := Aside0.mk (Kd.R_below (rA HO387.out) hb); have n4_ := Aside0.mk (blk_below (g:=gb359) (o:=.cells #[.slice A0_0 l0_0.length c0_0,.int .i64 a0_1] 24 (0,0)) (kA BK359.out) hb); have n5_ := Aside0.mk (blk_below (g:=gb371) (o:=.cells #[.slice Ao26 t365.length co26,.int .i64 t368] 28 (0,0)) (kA BK371.out) hb); have n6_ := Aside0.mk (blk_below (g:=gb376) (o:=.cells #[.slice Ao32 t372.length co32,.int .i64 t375] 28 (0,0)) (kA BK376.out) hb); have n7_ := Aside0.mk (blk_below (g:=gb383) (o:=.cells #[.slice Ao38 t377.length co38,.int .i64 t380] 28 (0,0)) (kA BK383.out) hb); have n8_ := Aside0.mk (below_step bA hb); clear HO_372000; clear HO_377000; clear HO_384000; clear HO387; clear BK359; clear BK371; clear BK376; clear BK383; clear HB; have HO_372000 := n0_; have HO_377000 := n1_; have HO_384000 := n2_; have HO387 := n3_; have BK359 := n4_; have BK371 := n5_; have BK376 := n6_; have BK383 := n7_; have HB := n8_; clear n0_ n1_ n2_ n3_ n4_ n5_ n6_ n7_ n8_; (try clear hb); (try clear hb2); (try clear hk); (try clear hi)))
            go_meet
            case rel => exact ⟨_,((t382 != t370)),(by first | rfl | (simp; done) | (simp [*]; done)),H',⟨by have := HJ16.out; first | omega | exact Nat.le_refl _⟩,⟨by (with_reducible repeat (first | apply Kd.R_alloc | apply Kd.R_drewN | apply Kd.R_drew)); exact Kd.R_mono HO_372000.out (fun _ hk => ⟨hk.1,hk.2.1⟩)⟩,⟨by (with_reducible repeat (first | apply Kd.R_alloc | apply Kd.R_drewN | apply Kd.R_drew)); exact Kd.R_mono HO_377000.out (fun _ hk => ⟨hk.1.1,hk.1.2⟩)⟩,⟨by (with_reducible repeat (first | apply Kd.R_alloc | apply Kd.R_drewN | apply Kd.R_drew)); exact Kd.R_mono HO_384000.out (fun _ hk => ⟨hk.1,hk.2.1⟩)⟩,⟨kA BK359.out⟩,⟨kA BK371.out⟩,⟨kA BK376.out⟩,⟨kA BK383.out⟩,⟨bA⟩⟩
           ·rw [if_neg c88] at H
            have c88b0 : (t381 == t369) = false := beq_eq_false_iff_ne.mpr c88
            have c88b1 : (t381 != t369) = true := bne_iff_ne.mpr c88
            have H' := Aside0.mk H
            clear H
            have hnb97 := NB383_359.out
            have hnc97 := NB359_383.out
            have hnb98 := NB383_371.out
            have hnc98 := NB371_383.out
            have hnb99 := NB383_376.out
            have hnc99 := NB376_383.out
            have hcz100_0 : w84.cell? ⟨gb383,0,none⟩ = some (.slice Ao38 t377.length co38) := (blk_cell BK383.out 0).trans rfl
            have hcz100_1 : w84.cell? ⟨gb383,1,none⟩ = some (.int .i64 t380) := (blk_cell BK383.out 1).trans rfl
            have hfz100_0 := blk_frozen BK383.out 0
            have hfz100_1 := blk_frozen BK383.out 1
            have hnb101 := NB371_359.out
            have hnc101 := NB359_371.out
            have hnb102 := NB371_376.out
            have hnc102 := NB376_371.out
            have hcz103_0 : w84.cell? ⟨gb371,0,none⟩ = some (.slice Ao26 t365.length co26) := (blk_cell BK371.out 0).trans rfl
            have hcz103_1 : w84.cell? ⟨gb371,1,none⟩ = some (.int .i64 t368) := (blk_cell BK371.out 1).trans rfl
            have hfz103_0 := blk_frozen BK371.out 0
            have hfz103_1 := blk_frozen BK371.out 1
            go_wp2_with (first | (go_at_call 11; (with_reducible refine (laws_eqStore.calls kj16 _ _ t377 t380 _ _ t365 t368 true _ ?side1 ?side2 ?side3 ?side4 A86.out).mono ?_); (case side1 => repeat (first | exact (Kd.R_reads' HO_384000.out).2.2 | (with_reducible refine Kd.C_alloc ?_ _) | (with_reducible refine Kd.C_drewN ?_ _) | (with_reducible refine Kd.C_drew ?_))); (case side2 => exact (Kd.R_reads' HO_384000.out).2.1); (case side3 => repeat (first | exact (Kd.R_reads' HO_372000.out).2.2 | (with_reducible refine Kd.C_alloc ?_ _) | (with_reducible refine Kd.C_drewN ?_ _) | (with_reducible refine Kd.C_drew ?_))); (case side4 => exact (Kd.R_reads' HO_372000.out).2.1); rintro e w104 ⟨rfl,hb⟩; have n0_ := Aside0.mk (Kd.R_below (rA HO_372000.out) hb); have n1_ := Aside0.mk (Kd.R_below (rA HO_377000.out) hb); have n2_ := Aside0.mk (Kd.R_below (rA HO_384000.out) hb); have n3_ := Aside0.mk (Kd.R_below (rA HO387.out) hb); have n4_ := Aside0.mk (blk_below (g:=gb359) (o:=.cells #[.slice A0_0 l0_0.length c0_0,.int .i64 a0_1] 24 (0,0)) (kA BK359.out) hb); have n5_ := Aside0.mk (blk_below (g:=gb371) (o:=.cells #[.slice Ao26 t365.length co26,.int .i64 t368] 28 (0,0)) (kA BK371.out) hb); have n6_ := Aside0.mk (blk_below (g:=gb376) (o:=.cells #[.slice Ao32 t372.length co32,.int .i64 t375] 28 (0,0)) (kA BK376.out) hb); have n7_ := Aside0.mk (blk_below (g:=gb383) (o:=.cells #[.slice Ao38 t377.length co38,.int .i64 t380] 28 (0,0)) (kA BK383.out) hb); have n8_ := Aside0.mk (below_step bA hb); clear HO_372000; clear HO_377000; clear HO_384000; clear HO387; clear BK359; clear BK371; clear BK376; clear BK383; clear HB; have HO_372000 := n0_; have HO_377000 := n1_; have HO_384000 := n2_; have HO387 := n3_; have BK359 := n4_; have BK371 := n5_; have BK376 := n6_; have BK383 := n7_; have HB := n8_; clear n0_ n1_ n2_ n3_ n4_ n5_ n6_ n7_ n8_; (try clear hb); (try clear hb2); (try clear hk); (try clear hi)))
            go_meet
            case rel => exact ⟨_,(true),(by first | rfl | (simp; done) | (simp [*]; done)),H',⟨by have := HJ16.out; first | omega | exact Nat.le_refl _⟩,⟨by (with_reducible repeat (first | apply Kd.R_alloc | apply Kd.R_drewN | apply Kd.R_drew)); exact Kd.R_mono HO_372000.out (fun _ hk => ⟨hk.1,hk.2.1⟩)⟩,⟨by (with_reducible repeat (first | apply Kd.R_alloc | apply Kd.R_drewN | apply Kd.R_drew)); exact Kd.R_mono HO_377000.out (fun _ hk => ⟨hk.1.1,hk.1.2⟩)⟩,⟨by (with_reducible repeat (first | apply Kd.R_alloc | apply Kd.R_drewN | apply Kd.R_drew)); exact Kd.R_mono HO_384000.out (fun _ hk => ⟨hk.1,hk.2.1⟩)⟩,⟨kA BK359.out⟩,⟨kA BK371.out⟩,⟨kA BK376.out⟩,⟨kA BK383.out⟩,⟨bA⟩⟩
          ·replace c87 := Bool.eq_false_iff.mpr c87
           subst c87
           rw [if_neg (show ¬ (false = true) by decide)] at H
           have H' := Aside0.mk H
           clear H
           have hnb105 := NB383_359.out
           have hnc105 := NB359_383.out
           have hnb106 := NB383_371.out
           have hnc106 := NB371_383.out
           have hnb107 := NB383_376.out
           have hnc107 := NB376_383.out
           have hcz108_0 : w84.cell? ⟨gb383,0,none⟩ = some (.slice Ao38 t377.length co38) := (blk_cell BK383.out 0).trans rfl
           have hcz108_1 : w84.cell? ⟨gb383,1,none⟩ = some (.int .i64 t380) := (blk_cell BK383.out 1).trans rfl
           have hfz108_0 := blk_frozen BK383.out 0
           have hfz108_1 := blk_frozen BK383.out 1
           have hnb109 := NB371_359.out
           have hnc109 := NB359_371.out
           have hnb110 := NB371_376.out
           have hnc110 := NB376_371.out
           have hcz111_0 : w84.cell? ⟨gb371,0,none⟩ = some (.slice Ao26 t365.length co26) := (blk_cell BK371.out 0).trans rfl
           have hcz111_1 : w84.cell? ⟨gb371,1,none⟩ = some (.int .i64 t368) := (blk_cell BK371.out 1).trans rfl
           have hfz111_0 := blk_frozen BK371.out 0
           have hfz111_1 := blk_frozen BK371.out 1
           go_wp2_with (first | (go_at_call 11; (with_reducible refine (laws_eqStore.calls kj16 _ _ t377 t380 _ _ t365 t368 false _ ?side1 ?side2 ?side3 ?side4 A86.out).mono ?_); (case side1 => repeat (first | exact (Kd.R_reads' HO_384000.out).2.2 | (with_reducible refine Kd.C_alloc ?_ _) | (with_reducible refine Kd.C_drewN ?_ _) | (with_reducible refine Kd.C_drew ?_))); (case side2 => exact (Kd.R_reads' HO_384000.out).2.1); (case side3 => repeat (first | exact (Kd.R_reads' HO_372000.out).2.2 | (with_reducible refine Kd.C_alloc ?_ _) | (with_reducible refine Kd.C_drewN ?_ _) | (with_reducible refine Kd.C_drew ?_))); (case side4 => exact (Kd.R_reads' HO_372000.out).2.1); rintro e w112 ⟨rfl,hb⟩; have n0_ := Aside0.mk (Kd.R_below (rA HO_372000.out) hb); have n1_ := Aside0.mk (Kd.R_below (rA HO_377000.out) hb); have n2_ := Aside0.mk (Kd.R_below (rA HO_384000.out) hb); have n3_ := Aside0.mk (Kd.R_below (rA HO387.out) hb); have n4_ := Aside0.mk (blk_below (g:=gb359) (o:=.cells #[.slice A0_0 l0_0.length c0_0,.int .i64 a0_1] 24 (0,0)) (kA BK359.out) hb); have n5_ := Aside0.mk (blk_below (g:=gb371) (o:=.cells #[.slice Ao26 t365.length co26,.int .i64 t368] 28 (0,0)) (kA BK371.out) hb); have n6_ := Aside0.mk (blk_below (g:=gb376) (o:=.cells #[.slice Ao32 t372.length co32,.int .i64 t375] 28 (0,0)) (kA BK376.out) hb); have n7_ := Aside0.mk (blk_below (g:=gb383) (o:=.cells #[.slice Ao38 t377.length co38,.int .i64 t380] 28 (0,0)) (kA BK383.out) hb); have n8_ := Aside0.mk (below_step bA hb); clear HO_372000; clear HO_377000; clear HO_384000; clear HO387; clear BK359; clear BK371; clear BK376; clear BK383; clear HB; have HO_372000 := n0_; have HO_377000 := n1_; have HO_384000 := n2_; have HO387 := n3_; have BK359 := n4_; have BK371 := n5_; have BK376 := n6_; have BK383 := n7_; have HB := n8_; clear n0_ n1_ n2_ n3_ n4_ n5_ n6_ n7_ n8_; (try clear hb); (try clear hb2); (try clear hk); (try clear hi)))
           go_meet
           case rel => exact ⟨_,(true),(by first | rfl | (simp; done) | (simp [*]; done)),H',⟨by have := HJ16.out; first | omega | exact Nat.le_refl _⟩,⟨by (with_reducible repeat (first | apply Kd.R_alloc | apply Kd.R_drewN | apply Kd.R_drew)); exact Kd.R_mono HO_372000.out (fun _ hk => ⟨hk.1,hk.2.1⟩)⟩,⟨by (with_reducible repeat (first | apply Kd.R_alloc | apply Kd.R_drewN | apply Kd.R_drew)); exact Kd.R_mono HO_377000.out (fun _ hk => ⟨hk.1.1,hk.1.2⟩)⟩,⟨by (with_reducible repeat (first | apply Kd.R_alloc | apply Kd.R_drewN | apply Kd.R_drew)); exact Kd.R_mono HO_384000.out (fun _ hk => ⟨hk.1,hk.2.1⟩)⟩,⟨kA BK359.out⟩,⟨kA BK371.out⟩,⟨kA BK376.out⟩,⟨kA BK383.out⟩,⟨bA⟩⟩
        case rest =>
         clear HC75
         try clear c1
         try clear c2
         try clear p2
         try clear c3
         try clear c4
         try clear c4b0
         try clear c4b1
         try clear c5
         try clear c6
         try clear c6b0
         try clear c6b1
         try clear c7
         try clear c8
         try clear c9
         try clear c9b0
         try clear c10
         try clear c11
         try clear c12
         try clear c19
         try clear c20
         try clear c27
         try clear c33
         try clear c34
         try clear c39
         try clear c40
         try clear c41
         try clear c44
         try clear c45
         try clear c45b0
         try clear c45b1
         try clear c46
         try clear c47
         try clear c48
         try clear c50
         try clear c51
         try clear c54
         try clear c55
         try clear c56
         try clear c58
         try clear c59
         try clear c62
         try clear c63
         try clear c64
         try clear c66
         try clear c67
         try clear c70
         try clear c73
         try clear c80
         try clear c81
         try clear c82
         try clear c85
         try clear c85b0
         try clear c87
         try clear c88
         try clear c88b0
         try clear c88b1
         try clear c89
         try clear c90
         try clear c91
         try clear c93
         try clear c94
         try clear c97
         try clear c98
         try clear c99
         try clear c101
         try clear c102
         try clear c105
         try clear c106
         try clear c107
         try clear c109
         try clear c110
         try clear hcz100_0
         try clear hcz100_1
         try clear hcz103_0
         try clear hcz103_1
         try clear hcz108_0
         try clear hcz108_1
         try clear hcz111_0
         try clear hcz111_1
         try clear hcz11_0
         try clear hcz11_1
         try clear hcz19_0
         try clear hcz19_1
         try clear hcz21_0
         try clear hcz21_1
         try clear hcz28_0
         try clear hcz28_1
         try clear hcz29_0
         try clear hcz29_1
         try clear hcz35_0
         try clear hcz35_1
         try clear hcz42_0
         try clear hcz42_1
         try clear hcz49_0
         try clear hcz49_1
         try clear hcz52_0
         try clear hcz52_1
         try clear hcz57_0
         try clear hcz57_1
         try clear hcz60_0
         try clear hcz60_1
         try clear hcz65_0
         try clear hcz65_1
         try clear hcz68_0
         try clear hcz68_1
         try clear hcz83_0
         try clear hcz83_1
         try clear hcz92_0
         try clear hcz92_1
         try clear hcz95_0
         try clear hcz95_1
         try clear hfz100_0
         try clear hfz100_1
         try clear hfz103_0
         try clear hfz103_1
         try clear hfz108_0
         try clear hfz108_1
         try clear hfz111_0
         try clear hfz111_1
         try clear hfz11_0
         try clear hfz11_1
         try clear hfz19_0
         try clear hfz19_1
         try clear hfz21_0
         try clear hfz21_1
         try clear hfz28_0
         try clear hfz28_1
         try clear hfz29_0
         try clear hfz29_1
         try clear hfz35_0
         try clear hfz35_1
         try clear hfz42_0
         try clear hfz42_1
         try clear hfz49_0
         try clear hfz49_1
         try clear hfz52_0
         try clear hfz52_1
         try clear hfz57_0
         try clear hfz57_1
         try clear hfz60_0
         try clear hfz60_1
         try clear hfz65_0
         try clear hfz65_1
         try clear hfz68_0
         try clear hfz68_1
         try clear hfz83_0
         try clear hfz83_1
         try clear hfz92_0
         try clear hfz92_1
         try clear hfz95_0
         try clear hfz95_1
         try clear p2
         obtain ⟨kq,x90_74,rfl,HA,HJ74,HO_372000,HO_377000,HO_384000,BK359,BK371,BK376,BK383,HB⟩ := hcut
         have hl377000_74 := (Kd.R_reads' HO_377000.out).1
         rw [hl377000_74] at HO_377000
         (try simp only [hl377000_74])
         (try simp only [hl377000_74] at BK359)
         (try simp only [hl377000_74] at BK371)
         (try simp only [hl377000_74] at BK376)
         (try simp only [hl377000_74] at BK383)
         (try simp only [hl377000_74] at HO_372000)
         (try simp only [hl377000_74] at HO_384000)
         cases kq with
         | zero => exact absurd HA.out (by simp [laws_FnExactPutAbsent.j1])
         | succ kj74 =>
          have H := HA.out
          clear HA
          simp only [laws_FnExactPutAbsent.j1] at H
          by_cases c113 : x90_74 = true
          ·subst c113
           rw [if_pos rfl] at H
           exact absurd H (by simp)
          ·replace c113 := Bool.eq_false_iff.mpr c113
           subst c113
           rw [if_neg (show ¬ (false = true) by decide)] at H
           replace H := Option.bind_eq_some_iff.mp H
           obtain ⟨⟨t393,t394⟩,A1140,H⟩ := H
           try dsimp only at H
           have A114 := Aside0.mk A1140
           clear A1140
           replace H := Option.bind_eq_some_iff.mp H
           obtain ⟨t395,A1150,H⟩ := H
           try dsimp only at H
           have A115 := Aside0.mk A1150
           clear A1150
           by_cases c116 : t395 < 0
           ·rw [if_pos c116] at H
            exact absurd H (by simp)
           ·rw [if_neg c116] at H
            have c116b0 : decide (t395 < 0) = false := decide_eq_false c116
            clear c116
            by_cases c117 : t395 = t393
            ·rw [if_pos c117] at H
             have c117b0 : (t395 == t393) = true := beq_iff_eq.mpr c117
             have c117b1 : (t395 != t393) = false := bne_eq_false_iff_eq.mpr c117
             clear c117
             replace H := Option.bind_eq_some_iff.mp H
             obtain ⟨⟨t396,t399⟩,A1180,H⟩ := H
             try dsimp only at H
             have A118 := Aside0.mk A1180
             clear A1180
             replace H := Option.bind_eq_some_iff.mp H
             obtain ⟨⟨t400,t403,t404,t405⟩,A1190,H⟩ := H
             try dsimp only at H
             have A119 := Aside0.mk A1190
             clear A1190
             have HC120 := Aside0.mk H
             clear H
             have hnb121 := NB383_359.out
             have hnc121 := NB359_383.out
             have hnb122 := NB383_371.out
             have hnc122 := NB371_383.out
             have hnb123 := NB383_376.out
             have hnc123 := NB376_383.out
             have hcz124_0 : wc.cell? ⟨gb383,0,none⟩ = some (.slice Ao38 t377.length co38) := (blk_cell BK383.out 0).trans rfl
             have hcz124_1 : wc.cell? ⟨gb383,1,none⟩ = some (.int .i64 t380) := (blk_cell BK383.out 1).trans rfl
             have hfz124_0 := blk_frozen BK383.out 0
             have hfz124_1 := blk_frozen BK383.out 1
             go_upto_region 29 with (first | ((with_reducible refine gate_callee (f:=12) rfl ?_); refine goesL_ (some 93) rfl rfl Try.func12 (by kernel_rfl) rfl #[.agg #[.slice Ao38 t377.length co38,.int .i64 t380],.int .i64 1] rfl mA ?_; (with_reducible refine (laws_markStore.calls kj74 (fun k_ => some k_ = (.slice Ao38 t377.length co38 : Value).ownBlock) (.slice Ao38 t377.length co38) t377 t380 1 t393 t394 w _ ?side1 ?side2 A114.out).mono ?_); (case side1 => exact bA); (case side2 => exact Kd.R_tight rfl HO_384000.out); rintro e w125 ⟨rfl,hy0,hb,hkp⟩; refine ⟨_,rfl,?_⟩; have n0_ := Aside0.mk (Kd.R_mono (ok' := fun k_ => some k_ ≠ (.slice Ao32 t391.length co32 : Value).ownBlock ∧ some k_ ≠ (.slice Ao38 t377.length co38 : Value).ownBlock) (Kd.R_keptB (HO_372000.out) hkp (fun k_ hk_ hs_ => (hk_.2) hs_)) (fun k_ hk_ => ⟨hk_.1.1,hk_.1.2⟩)); have n1_ := Aside0.mk (Kd.R_mono (ok' := fun k_ => some k_ ≠ (.slice Ao26 t365.length co26 : Value).ownBlock ∧ some k_ ≠ (.slice Ao38 t377.length co38 : Value).ownBlock) (Kd.R_keptB (HO_377000.out) hkp (fun k_ hk_ hs_ => (hk_.2) hs_)) (fun k_ hk_ => ⟨hk_.1.1,hk_.1.2⟩)); have n2_ := Aside0.mk (Kd.R_reok rfl hy0 (fun k_ e_ => HO_384000.out.1 k_ e_)); have n3_ := Aside0.mk (blk_kept (kA BK359.out) hkp (fun hs_ => (fun e_ => (Kd.R_ne HO_384000.out BK359.out (by decide)) e_) hs_)); have n4_ := Aside0.mk (blk_kept (kA BK371.out) hkp (fun hs_ => (fun e_ => (Kd.R_ne HO_384000.out BK371.out (by decide)) e_) hs_)); have n5_ := Aside0.mk (blk_kept (kA BK376.out) hkp (fun hs_ => (fun e_ => (Kd.R_ne HO_384000.out BK376.out (by decide)) e_) hs_)); have n6_ := Aside0.mk (blk_kept (kA BK383.out) hkp (fun hs_ => (fun e_ => (Kd.R_ne HO_384000.out BK383.out (by decide)) e_) hs_)); have n7_ := Aside0.mk (hb); clear HO_372000; clear HO_377000; clear HO_384000; clear BK359; clear BK371; clear BK376; clear BK383; clear HB; have HO_372000 := n0_; have HO_377000 := n1_; have HO_384000 := n2_; have BK359 := n3_; have BK371 := n4_; have BK376 := n5_; have BK383 := n6_; have HB := n7_; clear n0_ n1_ n2_ n3_ n4_ n5_ n6_ n7_; (try clear hb); (try clear hkp); (try clear hy0); have hcz126_0 : w125.cell? ⟨gb383,0,none⟩ = some (.slice Ao38 t377.length co38) := (blk_cell BK383.out 0).trans rfl; have hcz126_1 : w125.cell? ⟨gb383,1,none⟩ = some (.int .i64 t380) := (blk_cell BK383.out 1).trans rfl; have hfz126_0 := blk_frozen BK383.out 0; have hfz126_1 := blk_frozen BK383.out 1) | ((with_reducible refine gate_callee (f:=13) rfl ?_); refine goesL_ (some 96) rfl rfl Try.func13 (by kernel_rfl) rfl #[.agg #[.slice Ao38 t394.length co38,.int .i64 t380],.int .i64 1] rfl (by (try simp only [List.map_toArray,List.map_cons,List.map_nil]); first | done | (rw [show t394.length = t377.length from (Kd.R_reads' HO_384000.out).1.symm] <;> rfl) | rfl | (simp only [List.length_drop,List.length_take]; rfl)) ?_; (with_reducible refine (laws_heldStore.calls kj74 _ _ t394 t380 1 t395 _ ?side1 ?side2 A115.out).mono ?_); (case side1 => repeat (first | exact (Kd.R_reads' HO_384000.out).2.2 | (with_reducible refine Kd.C_alloc ?_ _) | (with_reducible refine Kd.C_drewN ?_ _) | (with_reducible refine Kd.C_drew ?_))); (case side2 => rw [show t394.length = t377.length from (Kd.R_reads' HO_384000.out).1.symm]; exact (Kd.R_reads' HO_384000.out).2.1); rintro e w127 ⟨rfl,hb⟩; refine ⟨_,rfl,?_⟩; have n0_ := Aside0.mk (Kd.R_below (rA HO_372000.out) hb); have n1_ := Aside0.mk (Kd.R_below (rA HO_377000.out) hb); have n2_ := Aside0.mk (Kd.R_below (rA HO_384000.out) hb); have n3_ := Aside0.mk (blk_below (g:=gb359) (o:=.cells #[.slice A0_0 l0_0.length c0_0,.int .i64 a0_1] 24 (0,0)) (kA BK359.out) hb); have n4_ := Aside0.mk (blk_below (g:=gb371) (o:=.cells #[.slice Ao26 t365.length co26,.int .i64 t368] 28 (0,0)) (kA BK371.out) hb); have n5_ := Aside0.mk (blk_below (g:=gb376) (o:=.cells #[.slice Ao32 t391.length co32,.int .i64 t375] 28 (0,0)) (kA BK376.out) hb); have n6_ := Aside0.mk (blk_below (g:=gb383) (o:=.cells #[.slice Ao38 t377.length co38,.int .i64 t380] 28 (0,0)) (kA BK383.out) hb); have n7_ := Aside0.mk (below_step bA hb); clear HO_372000; clear HO_377000; clear HO_384000; clear BK359; clear BK371; clear BK376; clear BK383; clear HB; have HO_372000 := n0_; have HO_377000 := n1_; have HO_384000 := n2_; have BK359 := n3_; have BK371 := n4_; have BK376 := n5_; have BK383 := n6_; have HB := n7_; clear n0_ n1_ n2_ n3_ n4_ n5_ n6_ n7_; (try clear hb); (try clear hb2); (try clear hk); (try clear hi); have hnb128 := NB359_371.out; have hnc128 := NB371_359.out; have hnb129 := NB359_376.out; have hnc129 := NB376_359.out; have hcz130_0 : w127.cell? ⟨gb359,0,none⟩ = some (.slice A0_0 l0_0.length c0_0) := (blk_cell BK359.out 0).trans rfl; have hcz130_1 : w127.cell? ⟨gb359,1,none⟩ = some (.int .i64 a0_1) := (blk_cell BK359.out 1).trans rfl; have hfz130_0 := blk_frozen BK359.out 0; have hfz130_1 := blk_frozen BK359.out 1) | ((with_reducible refine gate_callee (f:=9) rfl ?_); refine goesL_ (some 104) rfl rfl Try.func9 (by kernel_rfl) rfl #[.agg #[.slice A0_0 l0_0.length c0_0,.int .i64 a0_1]] rfl mA ?_; (with_reducible refine (laws_toStore.calls kj74 _ _ l0_0 a0_1 t396 t399 _ ?side1 ?side2 A118.out).mono ?_); (case side1 => repeat (first | exact (Kd.C_below HR0_0.out HB.out) | (with_reducible refine Kd.C_alloc ?_ _) | (with_reducible refine Kd.C_drewN ?_ _) | (with_reducible refine Kd.C_drew ?_))); (case side2 => exact HC0_0.out); rintro e w131 ⟨v397,rfl,ho0,hb⟩; refine ⟨_,rfl,?_⟩; have n0_ := Aside0.mk (Kd.R_elder' (rA HO_372000.out) (Kd.R_base ho0) hb); have n1_ := Aside0.mk (Kd.R_elder' (rA HO_377000.out) (Kd.R_base ho0) hb); have n2_ := Aside0.mk (Kd.R_elder' (rA HO_384000.out) (Kd.R_base ho0) hb); have n3_ := Aside0.mk (Kd.R_lower (Kd.R_new' (Kd.R_new' (Kd.R_new' ho0 (Kd.R_lt (rA HO_372000.out))) (Kd.R_lt (rA HO_377000.out))) (Kd.R_lt (rA HO_384000.out))) (below_size bA)); have n4_ := Aside0.mk (blk_below (g:=gb359) (o:=.cells #[.slice A0_0 l0_0.length c0_0,.int .i64 a0_1] 24 (0,0)) (kA BK359.out) hb); have n5_ := Aside0.mk (blk_below (g:=gb371) (o:=.cells #[.slice Ao26 t365.length co26,.int .i64 t368] 28 (0,0)) (kA BK371.out) hb); have n6_ := Aside0.mk (blk_below (g:=gb376) (o:=.cells #[.slice Ao32 t391.length co32,.int .i64 t375] 28 (0,0)) (kA BK376.out) hb); have n7_ := Aside0.mk (blk_below (g:=gb383) (o:=.cells #[.slice Ao38 t377.length co38,.int .i64 t380] 28 (0,0)) (kA BK383.out) hb); have n8_ := Aside0.mk (below_step bA hb); clear HO_372000; clear HO_377000; clear HO_384000; clear BK359; clear BK371; clear BK376; clear BK383; clear HB; have HO_372000 := n0_; have HO_377000 := n1_; have HO_384000 := n2_; have HO398 := n3_; have BK359 := n4_; have BK371 := n5_; have BK376 := n6_; have BK383 := n7_; have HB := n8_; clear n0_ n1_ n2_ n3_ n4_ n5_ n6_ n7_ n8_; (try clear hb); (try clear hb2); (try clear hk); (try clear hi); (try clear ho0); obtain ⟨Ao132,co132,eo132⟩ := Kd.R_slice HO398.out; subst eo132) | ((with_reducible refine gate_callee (f:=20) rfl ?_); refine goesL_ (some 107) rfl rfl Try.func20 (by kernel_rfl) rfl #[.agg #[.slice Ao132 t396.length co132,.int .i64 t399],.string a1,.string a2] rfl mA ?_; (with_reducible refine (impl_PutAbsent.calls kj74 _ _ t396 t399 a1 a2 t400 t403 t404 t405 _ ?side1 ?side2 A119.out).mono ?_); (case side1 => repeat (first | exact (Kd.R_reads' HO398.out).2.2 | (with_reducible refine Kd.C_alloc ?_ _) | (with_reducible refine Kd.C_drewN ?_ _) | (with_reducible refine Kd.C_drew ?_))); (case side2 => exact (Kd.R_reads' HO398.out).2.1); rintro e w133 ⟨v401,rfl,ho0,hb⟩; refine ⟨_,rfl,?_⟩; have n0_ := Aside0.mk (Kd.R_elder' (rA HO_372000.out) (Kd.R_base ho0) hb); have n1_ := Aside0.mk (Kd.R_elder' (rA HO_377000.out) (Kd.R_base ho0) hb); have n2_ := Aside0.mk (Kd.R_elder' (rA HO_384000.out) (Kd.R_base ho0) hb); have n3_ := Aside0.mk (Kd.R_elder' (rA HO398.out) (Kd.R_base ho0) hb); have n4_ := Aside0.mk (Kd.R_lower (Kd.R_new' (Kd.R_new' (Kd.R_new' (Kd.R_new' ho0 (Kd.R_lt (rA HO_372000.out))) (Kd.R_lt (rA HO_377000.out))) (Kd.R_lt (rA HO_384000.out))) (Kd.R_lt (rA HO398.out))) (below_size bA)); have n5_ := Aside0.mk (blk_below (g:=gb359) (o:=.cells #[.slice A0_0 l0_0.length c0_0,.int .i64 a0_1] 24 (0,0)) (kA BK359.out) hb); have n6_ := Aside0.mk (blk_below (g:=gb371) (o:=.cells #[.slice Ao26 t365.length co26,.int .i64 t368] 28 (0,0)) (kA BK371.out) hb); have n7_ := Aside0.mk (blk_below (g:=gb376) (o:=.cells #[.slice Ao32 t391.length co32,.int .i64 t375] 28 (0,0)) (kA BK376.out) hb); have n8_ := Aside0.mk (blk_below (g:=gb383) (o:=.cells #[.slice Ao38 t377.length co38,.int .i64 t380] 28 (0,0)) (kA BK383.out) hb); have n9_ := Aside0.mk (below_step bA hb); clear HO_372000; clear HO_377000; clear HO_384000; clear HO398; clear BK359; clear BK371; clear BK376; clear BK383; clear HB; have HO_372000 := n0_; have HO_377000 := n1_; have HO_384000 := n2_; have HO398 := n3_; have HO402 := n4_; have BK359 := n5_; have BK371 := n6_; have BK376 := n7_; have BK383 := n8_; have HB := n9_; clear n0_ n1_ n2_ n3_ n4_ n5_ n6_ n7_ n8_ n9_; (try clear hb); (try clear hb2); (try clear hk); (try clear hi); (try clear ho0)) | ((with_reducible refine gate_dst (N:=18) rfl ?_); refine box_event ?hg (N:=18) ?hd (cs := #[.slice none 0 0,.int .i64 0]) (t:=28) ?hr ?_; (case hd => rfl); (case hg => rfl); (case hr => first | (go_simp; done) | (go_simp; rfl)); intro gb406 hg w134 hbox hb; have n0_ := Aside0.mk (Kd.R_below (rA HO_372000.out) hb); have n1_ := Aside0.mk (Kd.R_below (rA HO_377000.out) hb); have n2_ := Aside0.mk (Kd.R_below (rA HO_384000.out) hb); have n3_ := Aside0.mk (Kd.R_below (rA HO398.out) hb); have n4_ := Aside0.mk (Kd.R_below (rA HO402.out) hb); have n5_ := Aside0.mk (blk_below (g:=gb359) (o:=.cells #[.slice A0_0 l0_0.length c0_0,.int .i64 a0_1] 24 (0,0)) (kA BK359.out) hb); have n6_ := Aside0.mk (blk_below (g:=gb371) (o:=.cells #[.slice Ao26 t365.length co26,.int .i64 t368] 28 (0,0)) (kA BK371.out) hb); have n7_ := Aside0.mk (blk_below (g:=gb376) (o:=.cells #[.slice Ao32 t391.length co32,.int .i64 t375] 28 (0,0)) (kA BK376.out) hb); have n8_ := Aside0.mk (blk_below (g:=gb383) (o:=.cells #[.slice Ao38 t377.length co38,.int .i64 t380] 28 (0,0)) (kA BK383.out) hb); have n9_ := Aside0.mk (below_step bA hb); have n10_ := Aside0.mk (hbox); have n11_ := Aside0.mk ((by rw [hg]; exact (below_size bA) : w.heap.size ≤ gb406)); have n12_ := Aside0.mk ((by rw [hg]; exact (below_size bA) : w.heap.size ≤ gb406)); have n13_ := Aside0.mk ((by rw [hg]; exact Nat.ne_of_lt (blk_lt (g:=gb359) (o:=.cells #[.slice A0_0 l0_0.length c0_0,.int .i64 a0_1] 24 (0,0)) (kA BK359.out)) : gb359 ≠ gb406)); have n14_ := Aside0.mk ((by rw [hg]; exact Nat.ne_of_gt (blk_lt (g:=gb359) (o:=.cells #[.slice A0_0 l0_0.length c0_0,.int .i64 a0_1] 24 (0,0)) (kA BK359.out)) : gb406 ≠ gb359)); have n15_ := Aside0.mk ((by rw [hg]; exact Nat.ne_of_lt (blk_lt (g:=gb371) (o:=.cells #[.slice Ao26 t365.length co26,.int .i64 t368] 28 (0,0)) (kA BK371.out)) : gb371 ≠ gb406)); have n16_ := Aside0.mk ((by rw [hg]; exact Nat.ne_of_gt (blk_lt (g:=gb371) (o:=.cells #[.slice Ao26 t365.length co26,.int .i64 t368] 28 (0,0)) (kA BK371.out)) : gb406 ≠ gb371)); have n17_ := Aside0.mk ((by rw [hg]; exact Nat.ne_of_lt (blk_lt (g:=gb376) (o:=.cells #[.slice Ao32 t391.length co32,.int .i64 t375] 28 (0,0)) (kA BK376.out)) : gb376 ≠ gb406)); have n18_ := Aside0.mk ((by rw [hg]; exact Nat.ne_of_gt (blk_lt (g:=gb376) (o:=.cells #[.slice Ao32 t391.length co32,.int .i64 t375] 28 (0,0)) (kA BK376.out)) : gb406 ≠ gb376)); have n19_ := Aside0.mk ((by rw [hg]; exact Nat.ne_of_lt (blk_lt (g:=gb383) (o:=.cells #[.slice Ao38 t377.length co38,.int .i64 t380] 28 (0,0)) (kA BK383.out)) : gb383 ≠ gb406)); have n20_ := Aside0.mk ((by rw [hg]; exact Nat.ne_of_gt (blk_lt (g:=gb383) (o:=.cells #[.slice Ao38 t377.length co38,.int .i64 t380] 28 (0,0)) (kA BK383.out)) : gb406 ≠ gb383)); clear HO_372000; clear HO_377000; clear HO_384000; clear HO398; clear HO402; clear BK359; clear BK371; clear BK376; clear BK383; clear HB; have HO_372000 := n0_; have HO_377000 := n1_; have HO_384000 := n2_; have HO398 := n3_; have HO402 := n4_; have BK359 := n5_; have BK371 := n6_; have BK376 := n7_; have BK383 := n8_; have HB := n9_; have BK406 := n10_; have GW406 := n11_; have GE406 := n12_; have NB359_406 := n13_; have NB406_359 := n14_; have NB371_406 := n15_; have NB406_371 := n16_; have NB376_406 := n17_; have NB406_376 := n18_; have NB383_406 := n19_; have NB406_383 := n20_; clear n0_ n1_ n2_ n3_ n4_ n5_ n6_ n7_ n8_ n9_ n10_ n11_ n12_ n13_ n14_ n15_ n16_ n17_ n18_ n19_ n20_; clear hb hbox hg; obtain ⟨Ao135,co135,eo135⟩ := Kd.R_slice HO402.out; subst eo135; have hnb136 := NB406_359.out; have hnc136 := NB359_406.out; have hnb137 := NB406_371.out; have hnc137 := NB371_406.out; have hnb138 := NB406_376.out; have hnc138 := NB376_406.out; have hnb139 := NB406_383.out; have hnc139 := NB383_406.out; have hcz140_0 : w134.cell? ⟨gb406,0,none⟩ = some (.slice none 0 0) := (blk_cell BK406.out 0).trans rfl; have hcz140_1 : w134.cell? ⟨gb406,1,none⟩ = some (.int .i64 0) := (blk_cell BK406.out 1).trans rfl; have hfz140_0 := blk_frozen BK406.out 0; have hfz140_1 := blk_frozen BK406.out 1))
             (try simp only [Act.put,setIfInBounds_toArray,set_cons_zero,set_cons_succ])
             go_cut [124] (fun v124 wc => ∃ (kq : Nat) (x124_119 : Bool),v124 = .bool x124_119 ∧ Aside0 (laws_FnExactPutAbsent.j2 kq t393 x124_119 t394 t380 = some r) ∧ Aside0 (kq ≤ kj74) ∧ Aside0 (Kd.R k71 71 wc w.heap.size (fun k_ => some k_ ≠ ((.slice Ao32 t391.length co32) : Value).ownBlock ∧ some k_ ≠ ((.slice Ao38 t377.length co38) : Value).ownBlock ∧ some k_ ≠ ((.slice Ao135 t400.length co135) : Value).ownBlock) (.slice Ao26 t365.length co26) t365) ∧ Aside0 (Kd.R k71 71 wc w.heap.size (fun k_ => some k_ ≠ ((.slice Ao26 t365.length co26) : Value).ownBlock ∧ some k_ ≠ ((.slice Ao38 t377.length co38) : Value).ownBlock ∧ some k_ ≠ ((.slice Ao135 t400.length co135) : Value).ownBlock) (.slice Ao32 t391.length co32) t391) ∧ Aside0 (Kd.R k71 71 wc w.heap.size (fun k_ => some k_ ≠ ((.slice Ao26 t365.length co26) : Value).ownBlock ∧ some k_ ≠ ((.slice Ao32 t391.length co32) : Value).ownBlock ∧ some k_ ≠ ((.slice Ao135 t400.length co135) : Value).ownBlock) (.slice Ao38 t377.length co38) t394) ∧ Aside0 (Kd.R k71 71 wc w.heap.size (fun k_ => some k_ ≠ ((.slice Ao26 t365.length co26) : Value).ownBlock ∧ some k_ ≠ ((.slice Ao32 t391.length co32) : Value).ownBlock ∧ some k_ ≠ ((.slice Ao38 t377.length co38) : Value).ownBlock) (.slice Ao135 t400.length co135) t400) ∧ Aside0 (wc.heap[gb359]? = some (.cells #[(.slice A0_0 l0_0.length c0_0),.int .i64 a0_1] 24 (0,0))) ∧ Aside0 (wc.heap[gb371]? = some (.cells #[(.slice Ao26 t365.length co26),.int .i64 t368] 28 (0,0))) ∧ Aside0 (wc.heap[gb376]? = some (.cells #[(.slice Ao32 t391.length co32),.int .i64 t375] 28 (0,0))) ∧ Aside0 (wc.heap[gb383]? = some (.cells #[(.slice Ao38 t377.length co38),.int .i64 t380] 28 (0,0))) ∧ Aside0 (wc.heap[gb406]? = some (.cells #[(.slice Ao135 t400.length co135),.int .i64 t403] 28 (0,0))) ∧ Aside0 (Below w.heap.size w wc))
             case first =>
              have H := HC120.out
              clear HC120
              replace H := Option.bind_eq_some_iff.mp H
              obtain ⟨t407,A1410,H⟩ := H
              try dsimp only at H
              have A141 := Aside0.mk A1410
              clear A1410
              by_cases c142 : t407 = true
              ·subst c142
               rw [if_pos rfl] at H
               by_cases c143 : t404 = t369
               ·rw [if_pos c143] at H
                have c143b0 : (t404 == t369) = true := beq_iff_eq.mpr c143
                have c143b1 : (t404 != t369) = false := bne_eq_false_iff_eq.mpr c143
                clear c143
                (first | rw [c143b0] | (simp only [i64_w,i32_w]; rw [c143b0]) | skip)
                have H' := Aside0.mk H
                clear H
                have hnb144 := NB406_359.out
                have hnc144 := NB359_406.out
                have hnb145 := NB406_371.out
                have hnc145 := NB371_406.out
                have hnb146 := NB406_376.out
                have hnc146 := NB376_406.out
                have hnb147 := NB406_383.out
                have hnc147 := NB383_406.out
                have hcz148_0 : w134.cell? ⟨gb406,0,none⟩ = some (.slice none 0 0) := (blk_cell BK406.out 0).trans rfl
                have hcz148_1 : w134.cell? ⟨gb406,1,none⟩ = some (.int .i64 0) := (blk_cell BK406.out 1).trans rfl
                have hfz148_0 := blk_frozen BK406.out 0
                have hfz148_1 := blk_frozen BK406.out 1
                have hnb149 := NB371_359.out
                have hnc149 := NB359_371.out
                have hnb150 := NB371_376.out
                have hnc150 := NB376_371.out
                have hnb151 := NB371_383.out
                have hnc151 := NB383_371.out
                have hcz152_0 : w134.cell? ⟨gb371,0,none⟩ = some (.slice Ao26 t365.length co26) := (blk_cell BK371.out 0).trans rfl
                have hcz152_1 : w134.cell? ⟨gb371,1,none⟩ = some (.int .i64 t368) := (blk_cell BK371.out 1).trans rfl
                have hfz152_0 := blk_frozen BK371.out 0
                have hfz152_1 := blk_frozen BK371.out 1
                go_wp2_with (first | ((with_reducible refine gate_callee (f:=11) rfl ?_); refine goesL_ (some 113) rfl rfl Try.func11 (by kernel_rfl) rfl #[.agg #[.slice Ao135 t400.length co135,.int .i64 t403],.agg #[.slice Ao26 t365.length co26,.int .i64 t368]] rfl mA ?_; (with_reducible refine (laws_eqStore.calls kj74 _ _ t400 t403 _ _ t365 t368 true _ ?side1 ?side2 ?side3 ?side4 A141.out).mono ?_); (case side1 => refine (Kd.R_reads' (e:=71) (base := w.heap.size) (ok := fun k_ => ((((True ∧ some k_ ≠ (.slice Ao26 t365.length co26 : Value).ownBlock) ∧ some k_ ≠ (.slice Ao32 t391.length co32 : Value).ownBlock) ∧ some k_ ≠ (.slice Ao38 t377.length co38 : Value).ownBlock) ∧ some k_ ≠ (.slice Ao132 t396.length co132 : Value).ownBlock)) (n:=t400.length) (c:=co135) ?_).2.2; exact (by (with_reducible repeat (first | apply Kd.R_alloc | apply Kd.R_drewN | apply Kd.R_drew)); exact (Kd.R_mono (Kd.R_far (p:=⟨gb406,1,none⟩) (Kd.R_far (p:=⟨gb406,0,none⟩) (Kd.R_types HO402.out BK406.out (by decide)) (fun _ hk => hk.2) (.slice Ao135 t400.length co135)) (fun _ hk => hk.2) (.int .i64 t403)) (fun _ h_ => h_.1)))); (case side2 => exact (Kd.R_reads' HO402.out).2.1); (case side3 => refine (Kd.R_reads' (e:=71) (base := w.heap.size) (ok := fun k_ => (((some k_ ≠ (.slice Ao32 t391.length co32 : Value).ownBlock ∧ some k_ ≠ (.slice Ao38 t377.length co38 : Value).ownBlock) ∧ some k_ ≠ (.slice Ao132 t396.length co132 : Value).ownBlock) ∧ some k_ ≠ (.slice Ao135 t400.length co135 : Value).ownBlock)) (n:=t365.length) (c:=co26) ?_).2.2; exact (by (with_reducible repeat (first | apply Kd.R_alloc | apply Kd.R_drewN | apply Kd.R_drew)); exact (Kd.R_mono (Kd.R_far (p:=⟨gb406,1,none⟩) (Kd.R_far (p:=⟨gb406,0,none⟩) (Kd.R_types HO_372000.out BK406.out (by decide)) (fun _ hk => hk.2) (.slice Ao135 t400.length co135)) (fun _ hk => hk.2) (.int .i64 t403)) (fun _ h_ => h_.1)))); (case side4 => exact (Kd.R_reads' HO_372000.out).2.1); rintro e w153 ⟨rfl,hb⟩; refine ⟨_,rfl,?_⟩; have n0_ := Aside0.mk (Kd.R_below (by (with_reducible repeat (first | apply Kd.R_alloc | apply Kd.R_drewN | apply Kd.R_drew)); exact (Kd.R_mono (Kd.R_far (p:=⟨gb406,1,none⟩) (Kd.R_far (p:=⟨gb406,0,none⟩) (Kd.R_types HO_372000.out BK406.out (by decide)) (fun _ hk => hk.2) (.slice Ao135 t400.length co135)) (fun _ hk => hk.2) (.int .i64 t403)) (fun _ h_ => h_.1))) hb); have n1_ := Aside0.mk (Kd.R_below (by (with_reducible repeat (first | apply Kd.R_alloc | apply Kd.R_drewN | apply Kd.R_drew)); exact (Kd.R_mono (Kd.R_far (p:=⟨gb406,1,none⟩) (Kd.R_far (p:=⟨gb406,0,none⟩) (Kd.R_types HO_377000.out BK406.out (by decide)) (fun _ hk => hk.2) (.slice Ao135 t400.length co135)) (fun _ hk => hk.2) (.int .i64 t403)) (fun _ h_ => h_.1))) hb); have n2_ := Aside0.mk (Kd.R_below (by (with_reducible repeat (first | apply Kd.R_alloc | apply Kd.R_drewN | apply Kd.R_drew)); exact (Kd.R_mono (Kd.R_far (p:=⟨gb406,1,none⟩) (Kd.R_far (p:=⟨gb406,0,none⟩) (Kd.R_types HO_384000.out BK406.out (by decide)) (fun _ hk => hk.2) (.slice Ao135 t400.length co135)) (fun _ hk => hk.2) (.int .i64 t403)) (fun _ h_ => h_.1))) hb); have n3_ := Aside0.mk (Kd.R_below (by (with_reducible repeat (first | apply Kd.R_alloc | apply Kd.R_drewN | apply Kd.R_drew)); exact (Kd.R_mono (Kd.R_far (p:=⟨gb406,1,none⟩) (Kd.R_far (p:=⟨gb406,0,none⟩) (Kd.R_types HO398.out BK406.out (by decide)) (fun _ hk => hk.2) (.slice Ao135 t400.length co135)) (fun _ hk => hk.2) (.int .i64 t403)) (fun _ h_ => h_.1))) hb); have n4_ := Aside0.mk (Kd.R_below (by (with_reducible repeat (first | apply Kd.R_alloc | apply Kd.R_drewN | apply Kd.R_drew)); exact (Kd.R_mono (Kd.R_far (p:=⟨gb406,1,none⟩) (Kd.R_far (p:=⟨gb406,0,none⟩) (Kd.R_types HO402.out BK406.out (by decide)) (fun _ hk => hk.2) (.slice Ao135 t400.length co135)) (fun _ hk => hk.2) (.int .i64 t403)) (fun _ h_ => h_.1))) hb); have n5_ := Aside0.mk (blk_below (g:=gb359) (o:=.cells #[.slice A0_0 l0_0.length c0_0,.int .i64 a0_1] 24 (0,0)) (kF BK359.out) hb); have n6_ := Aside0.mk (blk_below (g:=gb371) (o:=.cells #[.slice Ao26 t365.length co26,.int .i64 t368] 28 (0,0)) (kF BK371.out) hb); have n7_ := Aside0.mk (blk_below (g:=gb376) (o:=.cells #[.slice Ao32 t391.length co32,.int .i64 t375] 28 (0,0)) (kF BK376.out) hb); have n8_ := Aside0.mk (blk_below (g:=gb383) (o:=.cells #[.slice Ao38 t377.length co38,.int .i64 t380] 28 (0,0)) (kF BK383.out) hb); have n9_ := Aside0.mk (blk_below (g:=gb406) (o:=.cells #[.slice Ao135 t400.length co135,.int .i64 t403] 28 (0,0)) (by (with_reducible repeat (first | refine blk_drewN ?_ _ | refine blk_drew ?_ | refine blk_alloc ?_ _)); refine blk_put (cs := #[.slice Ao135 t400.length co135,.int .i64 0]) ?_ 1 _ rfl; (with_reducible repeat (first | refine blk_drewN ?_ _ | refine blk_drew ?_ | refine blk_alloc ?_ _)); refine blk_put (cs := #[.slice none 0 0,.int .i64 0]) ?_ 0 _ rfl; (with_reducible repeat (first | refine blk_drewN ?_ _ | refine blk_drew ?_ | refine blk_alloc ?_ _)); exact BK406.out) hb); have n10_ := Aside0.mk (below_step bA hb); clear HO_372000; clear HO_377000; clear HO_384000; clear HO398; clear HO402; clear BK359; clear BK371; clear BK376; clear BK383; clear BK406; clear HB; have HO_372000 := n0_; have HO_377000 := n1_; have HO_384000 := n2_; have HO398 := n3_; have HO402 := n4_; have BK359 := n5_; have BK371 := n6_; have BK376 := n7_; have BK383 := n8_; have BK406 := n9_; have HB := n10_; clear n0_ n1_ n2_ n3_ n4_ n5_ n6_ n7_ n8_ n9_ n10_; (try clear hb); (try clear hb2); (try clear hk); (try clear hi)))
                go_meet
                case rel => exact ⟨_,((t405 != t370)),(by first | rfl | (simp; done) | (simp [*]; done)),H',⟨by have := HJ16.out; have := HJ74.out; first | omega | exact Nat.le_refl _⟩,⟨by (try simp only [hl377000_74]); (with_reducible repeat (first | apply Kd.R_alloc | apply Kd.R_drewN | apply Kd.R_drew)); exact Kd.R_mono HO_372000.out (fun _ hk => ⟨hk.1.1.1,⟨hk.1.1.2,hk.2⟩⟩)⟩,⟨by (try simp only [hl377000_74]); (with_reducible repeat (first | apply Kd.R_alloc | apply Kd.R_drewN | apply Kd.R_drew)); exact Kd.R_mono HO_377000.out (fun _ hk => ⟨hk.1.1.1,⟨hk.1.1.2,hk.2⟩⟩)⟩,⟨by (try simp only [hl377000_74]); (with_reducible repeat (first | apply Kd.R_alloc | apply Kd.R_drewN | apply Kd.R_drew)); exact Kd.R_mono HO_384000.out (fun _ hk => ⟨hk.1.1.1,⟨hk.1.1.2,hk.2⟩⟩)⟩,⟨by (try simp only [hl377000_74]); (with_reducible repeat (first | apply Kd.R_alloc | apply Kd.R_drewN | apply Kd.R_drew)); exact Kd.R_mono HO402.out (fun _ hk => ⟨hk.1.1.1.2,⟨hk.1.1.2,hk.1.2⟩⟩)⟩,⟨by (try simp only [hl377000_74]); (with_reducible repeat (first | refine blk_drewN ?_ _ | refine blk_drew ?_ | refine blk_alloc ?_ _)); exact BK359.out⟩,⟨by (try simp only [hl377000_74]); (with_reducible repeat (first | refine blk_drewN ?_ _ | refine blk_drew ?_ | refine blk_alloc ?_ _)); exact BK371.out⟩,⟨by (try simp only [hl377000_74]); (with_reducible repeat (first | refine blk_drewN ?_ _ | refine blk_drew ?_ | refine blk_alloc ?_ _)); exact BK376.out⟩,⟨by (try simp only [hl377000_74]); (with_reducible repeat (first | refine blk_drewN ?_ _ | refine blk_drew ?_ | refine blk_alloc ?_ _)); exact BK383.out⟩,⟨by (try simp only [hl377000_74]); (with_reducible repeat (first | refine blk_drewN ?_ _ | refine blk_drew ?_ | refine blk_alloc ?_ _)); exact BK406.out⟩,⟨bA⟩⟩
               ·rw [if_neg c143] at H
                have c143b0 : (t404 == t369) = false := beq_eq_false_iff_ne.mpr c143
                have c143b1 : (t404 != t369) = true := bne_iff_ne.mpr c143
                (first | rw [c143b0] | (simp only [i64_w,i32_w]; rw [c143b0]) | skip)
                have H' := Aside0.mk H
                clear H
                have hnb154 := NB406_359.out
                have hnc154 := NB359_406.out
                have hnb155 := NB406_371.out
                have hnc155 := NB371_406.out
                have hnb156 := NB406_376.out
                have hnc156 := NB376_406.out
                have hnb157 := NB406_383.out
                have hnc157 := NB383_406.out
                have hcz158_0 : w134.cell? ⟨gb406,0,none⟩ = some (.slice none 0 0) := (blk_cell BK406.out 0).trans rfl
                have hcz158_1 : w134.cell? ⟨gb406,1,none⟩ = some (.int .i64 0) := (blk_cell BK406.out 1).trans rfl
                have hfz158_0 := blk_frozen BK406.out 0
                have hfz158_1 := blk_frozen BK406.out 1
                have hnb159 := NB371_359.out
                have hnc159 := NB359_371.out
                have hnb160 := NB371_376.out
                have hnc160 := NB376_371.out
                have hnb161 := NB371_383.out
                have hnc161 := NB383_371.out
                have hcz162_0 : w134.cell? ⟨gb371,0,none⟩ = some (.slice Ao26 t365.length co26) := (blk_cell BK371.out 0).trans rfl
                have hcz162_1 : w134.cell? ⟨gb371,1,none⟩ = some (.int .i64 t368) := (blk_cell BK371.out 1).trans rfl
                have hfz162_0 := blk_frozen BK371.out 0
                have hfz162_1 := blk_frozen BK371.out 1
                go_wp2_with (first | ((with_reducible refine gate_callee (f:=11) rfl ?_); refine goesL_ (some 113) rfl rfl Try.func11 (by kernel_rfl) rfl #[.agg #[.slice Ao135 t400.length co135,.int .i64 t403],.agg #[.slice Ao26 t365.length co26,.int .i64 t368]] rfl mA ?_; (with_reducible refine (laws_eqStore.calls kj74 _ _ t400 t403 _ _ t365 t368 true _ ?side1 ?side2 ?side3 ?side4 A141.out).mono ?_); (case side1 => refine (Kd.R_reads' (e:=71) (base := w.heap.size) (ok := fun k_ => ((((True ∧ some k_ ≠ (.slice Ao26 t365.length co26 : Value).ownBlock) ∧ some k_ ≠ (.slice Ao32 t391.length co32 : Value).ownBlock) ∧ some k_ ≠ (.slice Ao38 t377.length co38 : Value).ownBlock) ∧ some k_ ≠ (.slice Ao132 t396.length co132 : Value).ownBlock)) (n:=t400.length) (c:=co135) ?_).2.2; exact (by (with_reducible repeat (first | apply Kd.R_alloc | apply Kd.R_drewN | apply Kd.R_drew)); exact (Kd.R_mono (Kd.R_far (p:=⟨gb406,1,none⟩) (Kd.R_far (p:=⟨gb406,0,none⟩) (Kd.R_types HO402.out BK406.out (by decide)) (fun _ hk => hk.2) (.slice Ao135 t400.length co135)) (fun _ hk => hk.2) (.int .i64 t403)) (fun _ h_ => h_.1)))); (case side2 => exact (Kd.R_reads' HO402.out).2.1); (case side3 => refine (Kd.R_reads' (e:=71) (base := w.heap.size) (ok := fun k_ => (((some k_ ≠ (.slice Ao32 t391.length co32 : Value).ownBlock ∧ some k_ ≠ (.slice Ao38 t377.length co38 : Value).ownBlock) ∧ some k_ ≠ (.slice Ao132 t396.length co132 : Value).ownBlock) ∧ some k_ ≠ (.slice Ao135 t400.length co135 : Value).ownBlock)) (n:=t365.length) (c:=co26) ?_).2.2; exact (by (with_reducible repeat (first | apply Kd.R_alloc | apply Kd.R_drewN | apply Kd.R_drew)); exact (Kd.R_mono (Kd.R_far (p:=⟨gb406,1,none⟩) (Kd.R_far (p:=⟨gb406,0,none⟩) (Kd.R_types HO_372000.out BK406.out (by decide)) (fun _ hk => hk.2) (.slice Ao135 t400.length co135)) (fun _ hk => hk.2) (.int .i64 t403)) (fun _ h_ => h_.1)))); (case side4 => exact (Kd.R_reads' HO_372000.out).2.1); rintro e w163 ⟨rfl,hb⟩; refine ⟨_,rfl,?_⟩; have n0_ := Aside0.mk (Kd.R_below (by (with_reducible repeat (first | apply Kd.R_alloc | apply Kd.R_drewN | apply Kd.R_drew)); exact (Kd.R_mono (Kd.R_far (p:=⟨gb406,1,none⟩) (Kd.R_far (p:=⟨gb406,0,none⟩) (Kd.R_types HO_372000.out BK406.out (by decide)) (fun _ hk => hk.2) (.slice Ao135 t400.length co135)) (fun _ hk => hk.2) (.int .i64 t403)) (fun _ h_ => h_.1))) hb); have n1_ := Aside0.mk (Kd.R_below (by (with_reducible repeat (first | apply Kd.R_alloc | apply Kd.R_drewN | apply Kd.R_drew)); exact (Kd.R_mono (Kd.R_far (p:=⟨gb406,1,none⟩) (Kd.R_far (p:=⟨gb406,0,none⟩) (Kd.R_types HO_377000.out BK406.out (by decide)) (fun _ hk => hk.2) (.slice Ao135 t400.length co135)) (fun _ hk => hk.2) (.int .i64 t403)) (fun _ h_ => h_.1))) hb); have n2_ := Aside0.mk (Kd.R_below (by (with_reducible repeat (first | apply Kd.R_alloc | apply Kd.R_drewN | apply Kd.R_drew)); exact (Kd.R_mono (Kd.R_far (p:=⟨gb406,1,none⟩) (Kd.R_far (p:=⟨gb406,0,none⟩) (Kd.R_types HO_384000.out BK406.out (by decide)) (fun _ hk => hk.2) (.slice Ao135 t400.length co135)) (fun _ hk => hk.2) (.int .i64 t403)) (fun _ h_ => h_.1))) hb); have n3_ := Aside0.mk (Kd.R_below (by (with_reducible repeat (first | apply Kd.R_alloc | apply Kd.R_drewN | apply Kd.R_drew)); exact (Kd.R_mono (Kd.R_far (p:=⟨gb406,1,none⟩) (Kd.R_far (p:=⟨gb406,0,none⟩) (Kd.R_types HO398.out BK406.out (by decide)) (fun _ hk => hk.2) (.slice Ao135 t400.length co135)) (fun _ hk => hk.2) (.int .i64 t403)) (fun _ h_ => h_.1))) hb); have n4_ := Aside0.mk (Kd.R_below (by (with_reducible repeat (first | apply Kd.R_alloc | apply Kd.R_drewN | apply Kd.R_drew)); exact (Kd.R_mono (Kd.R_far (p:=⟨gb406,1,none⟩) (Kd.R_far (p:=⟨gb406,0,none⟩) (Kd.R_types HO402.out BK406.out (by decide)) (fun _ hk => hk.2) (.slice Ao135 t400.length co135)) (fun _ hk => hk.2) (.int .i64 t403)) (fun _ h_ => h_.1))) hb); have n5_ := Aside0.mk (blk_below (g:=gb359) (o:=.cells #[.slice A0_0 l0_0.length c0_0,.int .i64 a0_1] 24 (0,0)) (kF BK359.out) hb); have n6_ := Aside0.mk (blk_below (g:=gb371) (o:=.cells #[.slice Ao26 t365.length co26,.int .i64 t368] 28 (0,0)) (kF BK371.out) hb); have n7_ := Aside0.mk (blk_below (g:=gb376) (o:=.cells #[.slice Ao32 t391.length co32,.int .i64 t375] 28 (0,0)) (kF BK376.out) hb); have n8_ := Aside0.mk (blk_below (g:=gb383) (o:=.cells #[.slice Ao38 t377.length co38,.int .i64 t380] 28 (0,0)) (kF BK383.out) hb); have n9_ := Aside0.mk (blk_below (g:=gb406) (o:=.cells #[.slice Ao135 t400.length co135,.int .i64 t403] 28 (0,0)) (by (with_reducible repeat (first | refine blk_drewN ?_ _ | refine blk_drew ?_ | refine blk_alloc ?_ _)); refine blk_put (cs := #[.slice Ao135 t400.length co135,.int .i64 0]) ?_ 1 _ rfl; (with_reducible repeat (first | refine blk_drewN ?_ _ | refine blk_drew ?_ | refine blk_alloc ?_ _)); refine blk_put (cs := #[.slice none 0 0,.int .i64 0]) ?_ 0 _ rfl; (with_reducible repeat (first | refine blk_drewN ?_ _ | refine blk_drew ?_ | refine blk_alloc ?_ _)); exact BK406.out) hb); have n10_ := Aside0.mk (below_step bA hb); clear HO_372000; clear HO_377000; clear HO_384000; clear HO398; clear HO402; clear BK359; clear BK371; clear BK376; clear BK383; clear BK406; clear HB; have HO_372000 := n0_; have HO_377000 := n1_; have HO_384000 := n2_; have HO398 := n3_; have HO402 := n4_; have BK359 := n5_; have BK371 := n6_; have BK376 := n7_; have BK383 := n8_; have BK406 := n9_; have HB := n10_; clear n0_ n1_ n2_ n3_ n4_ n5_ n6_ n7_ n8_ n9_ n10_; (try clear hb); (try clear hb2); (try clear hk); (try clear hi)))
                go_meet
                case rel => exact ⟨_,(true),(by first | rfl | (simp; done) | (simp [*]; done)),H',⟨by have := HJ16.out; have := HJ74.out; first | omega | exact Nat.le_refl _⟩,⟨by (try simp only [hl377000_74]); (with_reducible repeat (first | apply Kd.R_alloc | apply Kd.R_drewN | apply Kd.R_drew)); exact Kd.R_mono HO_372000.out (fun _ hk => ⟨hk.1.1.1,⟨hk.1.1.2,hk.2⟩⟩)⟩,⟨by (try simp only [hl377000_74]); (with_reducible repeat (first | apply Kd.R_alloc | apply Kd.R_drewN | apply Kd.R_drew)); exact Kd.R_mono HO_377000.out (fun _ hk => ⟨hk.1.1.1,⟨hk.1.1.2,hk.2⟩⟩)⟩,⟨by (try simp only [hl377000_74]); (with_reducible repeat (first | apply Kd.R_alloc | apply Kd.R_drewN | apply Kd.R_drew)); exact Kd.R_mono HO_384000.out (fun _ hk => ⟨hk.1.1.1,⟨hk.1.1.2,hk.2⟩⟩)⟩,⟨by (try simp only [hl377000_74]); (with_reducible repeat (first | apply Kd.R_alloc | apply Kd.R_drewN | apply Kd.R_drew)); exact Kd.R_mono HO402.out (fun _ hk => ⟨hk.1.1.1.2,⟨hk.1.1.2,hk.1.2⟩⟩)⟩,⟨by (try simp only [hl377000_74]); (with_reducible repeat (first | refine blk_drewN ?_ _ | refine blk_drew ?_ | refine blk_alloc ?_ _)); exact BK359.out⟩,⟨by (try simp only [hl377000_74]); (with_reducible repeat (first | refine blk_drewN ?_ _ | refine blk_drew ?_ | refine blk_alloc ?_ _)); exact BK371.out⟩,⟨by (try simp only [hl377000_74]); (with_reducible repeat (first | refine blk_drewN ?_ _ | refine blk_drew ?_ | refine blk_alloc ?_ _)); exact BK376.out⟩,⟨by (try simp only [hl377000_74]); (with_reducible repeat (first | refine blk_drewN ?_ _ | refine blk_drew ?_ | refine blk_alloc ?_ _)); exact BK383.out⟩,⟨by (try simp only [hl377000_74]); (with_reducible repeat (first | refine blk_drewN ?_ _ | refine blk_drew ?_ | refine blk_alloc ?_ _)); exact BK406.out⟩,⟨bA⟩⟩
              ·replace c142 := Bool.eq_false_iff.mpr c142
               subst c142
               rw [if_neg (show ¬ (false = true) by decide)] at H
               have H' := Aside0.mk H
               clear H
               have hnb164 := NB406_359.out
               have hnc164 := NB359_406.out
               have hnb165 := NB406_371.out
               have hnc165 := NB371_406.out
               have hnb166 := NB406_376.out
               have hnc166 := NB376_406.out
               have hnb167 := NB406_383.out
               have hnc167 := NB383_406.out
               have hcz168_0 : w134.cell? ⟨gb406,0,none⟩ = some (.slice none 0 0) := (blk_cell BK406.out 0).trans rfl
               have hcz168_1 : w134.cell? ⟨gb406,1,none⟩ = some (.int .i64 0) := (blk_cell BK406.out 1).trans rfl
               have hfz168_0 := blk_frozen BK406.out 0
               have hfz168_1 := blk_frozen BK406.out 1
               have hnb169 := NB371_359.out
               have hnc169 := NB359_371.out
               have hnb170 := NB371_376.out
               have hnc170 := NB376_371.out
               have hnb171 := NB371_383.out
               have hnc171 := NB383_371.out
               have hcz172_0 : w134.cell? ⟨gb371,0,none⟩ = some (.slice Ao26 t365.length co26) := (blk_cell BK371.out 0).trans rfl
               have hcz172_1 : w134.cell? ⟨gb371,1,none⟩ = some (.int .i64 t368) := (blk_cell BK371.out 1).trans rfl
               have hfz172_0 := blk_frozen BK371.out 0
               have hfz172_1 := blk_frozen BK371.out 1
               go_wp2_with (first | ((with_reducible refine gate_callee (f:=11) rfl ?_); refine goesL_ (some 113) rfl rfl Try.func11 (by kernel_rfl) rfl #[.agg #[.slice Ao135 t400.length co135,.int .i64 t403],.agg #[.slice Ao26 t365.length co26,.int .i64 t368]] rfl mA ?_; (with_reducible refine (laws_eqStore.calls kj74 _ _ t400 t403 _ _ t365 t368 false _ ?side1 ?side2 ?side3 ?side4 A141.out).mono ?_); (case side1 => refine (Kd.R_reads' (e:=71) (base := w.heap.size) (ok := fun k_ => ((((True ∧ some k_ ≠ (.slice Ao26 t365.length co26 : Value).ownBlock) ∧ some k_ ≠ (.slice Ao32 t391.length co32 : Value).ownBlock) ∧ some k_ ≠ (.slice Ao38 t377.length co38 : Value).ownBlock) ∧ some k_ ≠ (.slice Ao132 t396.length co132 : Value).ownBlock)) (n:=t400.length) (c:=co135) ?_).2.2; exact (by (with_reducible repeat (first | apply Kd.R_alloc | apply Kd.R_drewN | apply Kd.R_drew)); exact (Kd.R_mono (Kd.R_far (p:=⟨gb406,1,none⟩) (Kd.R_far (p:=⟨gb406,0,none⟩) (Kd.R_types HO402.out BK406.out (by decide)) (fun _ hk => hk.2) (.slice Ao135 t400.length co135)) (fun _ hk => hk.2) (.int .i64 t403)) (fun _ h_ => h_.1)))); (case side2 => exact (Kd.R_reads' HO402.out).2.1); (case side3 => refine (Kd.R_reads' (e:=71) (base := w.heap.size) (ok := fun k_ => (((some k_ ≠ (.slice Ao32 t391.length co32 : Value).ownBlock ∧ some k_ ≠ (.slice Ao38 t377.length co38 : Value).ownBlock) ∧ some k_ ≠ (.slice Ao132 t396.length co132 : Value).ownBlock) ∧ some k_ ≠ (.slice Ao135 t400.length co135 : Value).ownBlock)) (n:=t365.length) (c:=co26) ?_).2.2; exact (by (with_reducible repeat (first | apply Kd.R_alloc | apply Kd.R_drewN | apply Kd.R_drew)); exact (Kd.R_mono (Kd.R_far (p:=⟨gb406,1,none⟩) (Kd.R_far (p:=⟨gb406,0,none⟩) (Kd.R_types HO_372000.out BK406.out (by decide)) (fun _ hk => hk.2) (.slice Ao135 t400.length co135)) (fun _ hk => hk.2) (.int .i64 t403)) (fun _ h_ => h_.1)))); (case side4 => exact (Kd.R_reads' HO_372000.out).2.1); rintro e w173 ⟨rfl,hb⟩; refine ⟨_,rfl,?_⟩; have n0_ := Aside0.mk (Kd.R_below (by (with_reducible repeat (first | apply Kd.R_alloc | apply Kd.R_drewN | apply Kd.R_drew)); exact (Kd.R_mono (Kd.R_far (p:=⟨gb406,1,none⟩) (Kd.R_far (p:=⟨gb406,0,none⟩) (Kd.R_types HO_372000.out BK406.out (by decide)) (fun _ hk => hk.2) (.slice Ao135 t400.length co135)) (fun _ hk => hk.2) (.int .i64 t403)) (fun _ h_ => h_.1))) hb); have n1_ := Aside0.mk (Kd.R_below (by (with_reducible repeat (first | apply Kd.R_alloc | apply Kd.R_drewN | apply Kd.R_drew)); exact (Kd.R_mono (Kd.R_far (p:=⟨gb406,1,none⟩) (Kd.R_far (p:=⟨gb406,0,none⟩) (Kd.R_types HO_377000.out BK406.out (by decide)) (fun _ hk => hk.2) (.slice Ao135 t400.length co135)) (fun _ hk => hk.2) (.int .i64 t403)) (fun _ h_ => h_.1))) hb); have n2_ := Aside0.mk (Kd.R_below (by (with_reducible repeat (first | apply Kd.R_alloc | apply Kd.R_drewN | apply Kd.R_drew)); exact (Kd.R_mono (Kd.R_far (p:=⟨gb406,1,none⟩) (Kd.R_far (p:=⟨gb406,0,none⟩) (Kd.R_types HO_384000.out BK406.out (by decide)) (fun _ hk => hk.2) (.slice Ao135 t400.length co135)) (fun _ hk => hk.2) (.int .i64 t403)) (fun _ h_ => h_.1))) hb); have n3_ := Aside0.mk (Kd.R_below (by (with_reducible repeat (first | apply Kd.R_alloc | apply Kd.R_drewN | apply Kd.R_drew)); exact (Kd.R_mono (Kd.R_far (p:=⟨gb406,1,none⟩) (Kd.R_far (p:=⟨gb406,0,none⟩) (Kd.R_types HO398.out BK406.out (by decide)) (fun _ hk => hk.2) (.slice Ao135 t400.length co135)) (fun _ hk => hk.2) (.int .i64 t403)) (fun _ h_ => h_.1))) hb); have n4_ := Aside0.mk (Kd.R_below (by (with_reducible repeat (first | apply Kd.R_alloc | apply Kd.R_drewN | apply Kd.R_drew)); exact (Kd.R_mono (Kd.R_far (p:=⟨gb406,1,none⟩) (Kd.R_far (p:=⟨gb406,0,none⟩) (Kd.R_types HO402.out BK406.out (by decide)) (fun _ hk => hk.2) (.slice Ao135 t400.length co135)) (fun _ hk => hk.2) (.int .i64 t403)) (fun _ h_ => h_.1))) hb); have n5_ := Aside0.mk (blk_below (g:=gb359) (o:=.cells #[.slice A0_0 l0_0.length c0_0,.int .i64 a0_1] 24 (0,0)) (kF BK359.out) hb); have n6_ := Aside0.mk (blk_below (g:=gb371) (o:=.cells #[.slice Ao26 t365.length co26,.int .i64 t368] 28 (0,0)) (kF BK371.out) hb); have n7_ := Aside0.mk (blk_below (g:=gb376) (o:=.cells #[.slice Ao32 t391.length co32,.int .i64 t375] 28 (0,0)) (kF BK376.out) hb); have n8_ := Aside0.mk (blk_below (g:=gb383) (o:=.cells #[.slice Ao38 t377.length co38,.int .i64 t380] 28 (0,0)) (kF BK383.out) hb); have n9_ := Aside0.mk (blk_below (g:=gb406) (o:=.cells #[.slice Ao135 t400.length co135,.int .i64 t403] 28 (0,0)) (by (with_reducible repeat (first | refine blk_drewN ?_ _ | refine blk_drew ?_ | refine blk_alloc ?_ _)); refine blk_put (cs := #[.slice Ao135 t400.length co135,.int .i64 0]) ?_ 1 _ rfl; (with_reducible repeat (first | refine blk_drewN ?_ _ | refine blk_drew ?_ | refine blk_alloc ?_ _)); refine blk_put (cs := #[.slice none 0 0,.int .i64 0]) ?_ 0 _ rfl; (with_reducible repeat (first | refine blk_drewN ?_ _ | refine blk_drew ?_ | refine blk_alloc ?_ _)); exact BK406.out) hb); have n10_ := Aside0.mk (below_step bA hb); clear HO_372000; clear HO_377000; clear HO_384000; clear HO398; clear HO402; clear BK359; clear BK371; clear BK376; clear BK383; clear BK406; clear HB; have HO_372000 := n0_; have HO_377000 := n1_; have HO_384000 := n2_; have HO398 := n3_; have HO402 := n4_; have BK359 := n5_; have BK371 := n6_; have BK376 := n7_; have BK383 := n8_; have BK406 := n9_; have HB := n10_; clear n0_ n1_ n2_ n3_ n4_ n5_ n6_ n7_ n8_ n9_ n10_; (try clear hb); (try clear hb2); (try clear hk); (try clear hi)))
               go_meet
               case rel => exact ⟨_,(true),(by first | rfl | (simp; done) | (simp [*]; done)),H',⟨by have := HJ16.out; have := HJ74.out; first | omega | exact Nat.le_refl _⟩,⟨by (try simp only [hl377000_74]); (with_reducible repeat (first | apply Kd.R_alloc | apply Kd.R_drewN | apply Kd.R_drew)); exact Kd.R_mono HO_372000.out (fun _ hk => ⟨hk.1.1.1,⟨hk.1.1.2,hk.2⟩⟩)⟩,⟨by (try simp only [hl377000_74]); (with_reducible repeat (first | apply Kd.R_alloc | apply Kd.R_drewN | apply Kd.R_drew)); exact Kd.R_mono HO_377000.out (fun _ hk => ⟨hk.1.1.1,⟨hk.1.1.2,hk.2⟩⟩)⟩,⟨by (try simp only [hl377000_74]); (with_reducible repeat (first | apply Kd.R_alloc | apply Kd.R_drewN | apply Kd.R_drew)); exact Kd.R_mono HO_384000.out (fun _ hk => ⟨hk.1.1.1,⟨hk.1.1.2,hk.2⟩⟩)⟩,⟨by (try simp only [hl377000_74]); (with_reducible repeat (first | apply Kd.R_alloc | apply Kd.R_drewN | apply Kd.R_drew)); exact Kd.R_mono HO402.out (fun _ hk => ⟨hk.1.1.1.2,⟨hk.1.1.2,hk.1.2⟩⟩)⟩,⟨by (try simp only [hl377000_74]); (with_reducible repeat (first | refine blk_drewN ?_ _ | refine blk_drew ?_ | refine blk_alloc ?_ _)); exact BK359.out⟩,⟨by (try simp only [hl377000_74]); (with_reducible repeat (first | refine blk_drewN ?_ _ | refine blk_drew ?_ | refine blk_alloc ?_ _)); exact BK371.out⟩,⟨by (try simp only [hl377000_74]); (with_reducible repeat (first | refine blk_drewN ?_ _ | refine blk_drew ?_ | refine blk_alloc ?_ _)); exact BK376.out⟩,⟨by (try simp only [hl377000_74]); (with_reducible repeat (first | refine blk_drewN ?_ _ | refine blk_drew ?_ | refine blk_alloc ?_ _)); exact BK383.out⟩,⟨by (try simp only [hl377000_74]); (with_reducible repeat (first | refine blk_drewN ?_ _ | refine blk_drew ?_ | refine blk_alloc ?_ _)); exact BK406.out⟩,⟨bA⟩⟩
             case rest =>
              clear HC120
              try clear c1
              try clear c2
              try clear p2
              try clear c3
              try clear c4
              try clear c4b0
              try clear c4b1
              try clear c5
              try clear c6
              try clear c6b0
              try clear c6b1
              try clear c7
              try clear c8
              try clear c9
              try clear c9b0
              try clear c10
              try clear c11
              try clear c12
              try clear c13
              try clear c14
              try clear c15
              try clear c16
              try clear c17
              try clear c19
              try clear c20
              try clear c27
              try clear c33
              try clear c34
              try clear c39
              try clear c40
              try clear c41
              try clear c44
              try clear c45
              try clear c45b0
              try clear c45b1
              try clear c46
              try clear c47
              try clear c48
              try clear c50
              try clear c51
              try clear c54
              try clear c55
              try clear c56
              try clear c58
              try clear c59
              try clear c62
              try clear c63
              try clear c64
              try clear c66
              try clear c67
              try clear c70
              try clear c73
              try clear c80
              try clear c81
              try clear c82
              try clear c85
              try clear c85b0
              try clear c87
              try clear c88
              try clear c88b0
              try clear c88b1
              try clear c89
              try clear c90
              try clear c91
              try clear c93
              try clear c94
              try clear c97
              try clear c98
              try clear c99
              try clear c101
              try clear c102
              try clear c105
              try clear c106
              try clear c107
              try clear c109
              try clear c110
              try clear c113
              try clear c116
              try clear c116b0
              try clear c117
              try clear c117b0
              try clear c117b1
              try clear c121
              try clear c122
              try clear c123
              try clear c128
              try clear c129
              try clear c136
              try clear c137
              try clear c138
              try clear c139
              try clear c142
              try clear c143
              try clear c143b0
              try clear c143b1
              try clear c144
              try clear c145
              try clear c146
              try clear c147
              try clear c149
              try clear c150
              try clear c151
              try clear c154
              try clear c155
              try clear c156
              try clear c157
              try clear c159
              try clear c160
              try clear c161
              try clear c164
              try clear c165
              try clear c166
              try clear c167
              try clear c169
              try clear c170
              try clear c171
              try clear hcz100_0
              try clear hcz100_1
              try clear hcz103_0
              try clear hcz103_1
              try clear hcz108_0
              try clear hcz108_1
              try clear hcz111_0
              try clear hcz111_1
              try clear hcz11_0
              try clear hcz11_1
              try clear hcz124_0
              try clear hcz124_1
              try clear hcz126_0
              try clear hcz126_1
              try clear hcz130_0
              try clear hcz130_1
              try clear hcz140_0
              try clear hcz140_1
              try clear hcz148_0
              try clear hcz148_1
              try clear hcz152_0
              try clear hcz152_1
              try clear hcz158_0
              try clear hcz158_1
              try clear hcz162_0
              try clear hcz162_1
              try clear hcz168_0
              try clear hcz168_1
              try clear hcz172_0
              try clear hcz172_1
              try clear hcz19_0
              try clear hcz19_1
              try clear hcz21_0
              try clear hcz21_1
              try clear hcz28_0
              try clear hcz28_1
              try clear hcz29_0
              try clear hcz29_1
              try clear hcz35_0
              try clear hcz35_1
              try clear hcz42_0
              try clear hcz42_1
              try clear hcz49_0
              try clear hcz49_1
              try clear hcz52_0
              try clear hcz52_1
              try clear hcz57_0
              try clear hcz57_1
              try clear hcz60_0
              try clear hcz60_1
              try clear hcz65_0
              try clear hcz65_1
              try clear hcz68_0
              try clear hcz68_1
              try clear hcz83_0
              try clear hcz83_1
              try clear hcz92_0
              try clear hcz92_1
              try clear hcz95_0
              try clear hcz95_1
              try clear hfz100_0
              try clear hfz100_1
              try clear hfz103_0
              try clear hfz103_1
              try clear hfz108_0
              try clear hfz108_1
              try clear hfz111_0
              try clear hfz111_1
              try clear hfz11_0
              try clear hfz11_1
              try clear hfz124_0
              try clear hfz124_1
              try clear hfz126_0
              try clear hfz126_1
              try clear hfz130_0
              try clear hfz130_1
              try clear hfz140_0
              try clear hfz140_1
              try clear hfz148_0
              try clear hfz148_1
              try clear hfz152_0
              try clear hfz152_1
              try clear hfz158_0
              try clear hfz158_1
              try clear hfz162_0
              try clear hfz162_1
              try clear hfz168_0
              try clear hfz168_1
              try clear hfz172_0
              try clear hfz172_1
              try clear hfz19_0
              try clear hfz19_1
              try clear hfz21_0
              try clear hfz21_1
              try clear hfz28_0
              try clear hfz28_1
              try clear hfz29_0
              try clear hfz29_1
              try clear hfz35_0
              try clear hfz35_1
              try clear hfz42_0
              try clear hfz42_1
              try clear hfz49_0
              try clear hfz49_1
              try clear hfz52_0
              try clear hfz52_1
              try clear hfz57_0
              try clear hfz57_1
              try clear hfz60_0
              try clear hfz60_1
              try clear hfz65_0
              try clear hfz65_1
              try clear hfz68_0
              try clear hfz68_1
              try clear hfz83_0
              try clear hfz83_1
              try clear hfz92_0
              try clear hfz92_1
              try clear hfz95_0
              try clear hfz95_1
              try clear p2
              obtain ⟨kq,x124_119,rfl,HA,HJ119,HO_372000,HO_377000,HO_384000,HO_407000,BK359,BK371,BK376,BK383,BK406,HB⟩ := hcut
              have hl384000_119 := (Kd.R_reads' HO_384000.out).1
              rw [hl384000_119] at HO_384000
              (try simp only [hl384000_119])
              (try simp only [hl384000_119] at BK359)
              (try simp only [hl384000_119] at BK371)
              (try simp only [hl384000_119] at BK376)
              (try simp only [hl384000_119] at BK383)
              (try simp only [hl384000_119] at BK406)
              (try simp only [hl384000_119] at HO_372000)
              (try simp only [hl384000_119] at HO_377000)
              (try simp only [hl384000_119] at HO_407000)
              cases kq with
              | zero => exact absurd HA.out (by simp [laws_FnExactPutAbsent.j2])
              | succ kj119 =>
               have H := HA.out
               clear HA
               simp only [laws_FnExactPutAbsent.j2] at H
               by_cases c174 : x124_119 = true
               ·subst c174
                rw [if_pos rfl] at H
                exact absurd H (by simp)
               ·replace c174 := Bool.eq_false_iff.mpr c174
                subst c174
                rw [if_neg (show ¬ (false = true) by decide)] at H
                replace H := Option.bind_eq_some_iff.mp H
                obtain ⟨t408,A1750,H⟩ := H
                try dsimp only at H
                have A175 := Aside0.mk A1750
                clear A1750
                by_cases c176 : t408 < 0
                ·rw [if_pos c176] at H
                 exact absurd H (by simp)
                ·rw [if_neg c176] at H
                 have c176b0 : decide (t408 < 0) = false := decide_eq_false c176
                 clear c176
                 by_cases c177 : t408 = t393
                 ·rw [if_pos c177] at H
                  have c177b0 : (t408 == t393) = true := beq_iff_eq.mpr c177
                  have c177b1 : (t408 != t393) = false := bne_eq_false_iff_eq.mpr c177
                  clear c177
                  obtain rfl := Option.some.inj H
                  have hnb178 := NB383_359.out
                  have hnc178 := NB359_383.out
                  have hnb179 := NB383_371.out
                  have hnc179 := NB371_383.out
                  have hnb180 := NB383_376.out
                  have hnc180 := NB376_383.out
                  have hnb181 := NB383_406.out
                  have hnc181 := NB406_383.out
                  have hcz182_0 : wc.cell? ⟨gb383,0,none⟩ = some (.slice Ao38 t394.length co38) := (blk_cell BK383.out 0).trans rfl
                  have hcz182_1 : wc.cell? ⟨gb383,1,none⟩ = some (.int .i64 t380) := (blk_cell BK383.out 1).trans rfl
                  have hfz182_0 := blk_frozen BK383.out 0
                  have hfz182_1 := blk_frozen BK383.out 1
                  go_wp2_with (first | ((with_reducible refine gate_callee (f:=13) rfl ?_); refine goesL_ (some 127) rfl rfl Try.func13 (by kernel_rfl) rfl #[.agg #[.slice Ao38 t394.length co38,.int .i64 t380],.int .i64 1] rfl mA ?_; (with_reducible refine (laws_heldStore.calls kj119 _ _ t394 t380 1 t408 _ ?side1 ?side2 A175.out).mono ?_); (case side1 => repeat (first | exact (Kd.R_reads' HO_384000.out).2.2 | (with_reducible refine Kd.C_alloc ?_ _) | (with_reducible refine Kd.C_drewN ?_ _) | (with_reducible refine Kd.C_drew ?_))); (case side2 => exact (Kd.R_reads' HO_384000.out).2.1); rintro e w183 ⟨rfl,hb⟩; refine ⟨_,rfl,?_⟩; have n0_ := Aside0.mk (Kd.R_below (rA HO_372000.out) hb); have n1_ := Aside0.mk (Kd.R_below (rA HO_377000.out) hb); have n2_ := Aside0.mk (Kd.R_below (rA HO_384000.out) hb); have n3_ := Aside0.mk (Kd.R_below (rA HO_407000.out) hb); have n4_ := Aside0.mk (blk_below (g:=gb359) (o:=.cells #[.slice A0_0 l0_0.length c0_0,.int .i64 a0_1] 24 (0,0)) (kA BK359.out) hb); have n5_ := Aside0.mk (blk_below (g:=gb371) (o:=.cells #[.slice Ao26 t365.length co26,.int .i64 t368] 28 (0,0)) (kA BK371.out) hb); have n6_ := Aside0.mk (blk_below (g:=gb376) (o:=.cells #[.slice Ao32 t391.length co32,.int .i64 t375] 28 (0,0)) (kA BK376.out) hb); have n7_ := Aside0.mk (blk_below (g:=gb383) (o:=.cells #[.slice Ao38 t394.length co38,.int .i64 t380] 28 (0,0)) (kA BK383.out) hb); have n8_ := Aside0.mk (blk_below (g:=gb406) (o:=.cells #[.slice Ao135 t400.length co135,.int .i64 t403] 28 (0,0)) (kA BK406.out) hb); have n9_ := Aside0.mk (below_step bA hb); clear HO_372000; clear HO_377000; clear HO_384000; clear HO_407000; clear BK359; clear BK371; clear BK376; clear BK383; clear BK406; clear HB; have HO_372000 := n0_; have HO_377000 := n1_; have HO_384000 := n2_; have HO_407000 := n3_; have BK359 := n4_; have BK371 := n5_; have BK376 := n6_; have BK383 := n7_; have BK406 := n8_; have HB := n9_; clear n0_ n1_ n2_ n3_ n4_ n5_ n6_ n7_ n8_ n9_; (try clear hb); (try clear hb2); (try clear hk); (try clear hi)))
                  go_ret
                  exact ⟨by first | rfl | (simp [errW_none,errW_some] <;> rfl) | (simp [*,errW_none,errW_some] <;> rfl),bA⟩
                 ·rw [if_neg c177] at H
                  exact absurd H (by simp)
            ·rw [if_neg c117] at H
             exact absurd H (by simp)
       ·replace c73 := Bool.eq_false_iff.mpr c73
        subst c73
        rw [if_neg (show ¬ (false = true) by decide)] at H
        exact absurd H (by simp)

end Go.Proofs.Ytbodkbaniebfaaa.XFnExactPutAbsent
