-- Printed by this session's own program wip/tools/xprint.py, which widens the kit's print. Not trusted: Lean checks it.
import Derived.Test.YtbodkbaniebfaaaXFnExactDeleteVersionx0
import Derived.Test.YtbodkbaniebfaaaXFnExactDeleteVersionx1
import Derived.Test.YtbodkbaniebfaaaXFnExactDeleteVersionx2
namespace Go.Proofs.Ytbodkbaniebfaaa.XFnExactDeleteVersion
open List (setIfInBounds_toArray set_cons_zero set_cons_succ)
open Go.RowKit Go.Proofs.YtbodkbaniebfaaaW.PrintWords Go.Proofs.YtbodkbaniebfaaaW.PrintLast Go.Proofs.YtbodkbaniebfaaaW.PrintMore
attribute [local go_sem] max2_int min2_int max_two min_two max_three min_three max_four min_four   -- for this text's walks alone
set_option linter.unusedVariables false
set_option linter.unusedSimpArgs false

/-! ### spec_l01Ask: function 24 -/
def spec_l01Ask.f (k : Nat) (l0_0 : List (S71)) (a0_1 : Int) (a1 : ByteArray) : Option (Int) := if (a1.size : Int) > 65536 then (some 2) else ((spec_StoreOK.f k l0_0 a0_1).bind fun t117 => (if t117 = true then ((spec_KeyOK.f k a1).bind fun t118 => (if t118 = true then (some 0) else (some 19))) else (some 1)))
theorem spec_l01Ask.mono : ∀ a0 a1 a2 k,LeO (spec_l01Ask.f k a0 a1 a2) (spec_l01Ask.f (k + 1) a0 a1 a2) := by
 intro a0 a1 a2 k
 unfold spec_l01Ask.f
 repeat' first
   | (with_reducible exact spec_KeyOK.mono _ _)
   | (with_reducible exact spec_StoreOK.mono _ _ _)
   | (with_reducible exact LeO.refl _)
   | (with_reducible exact LeO.none _)
   | (with_reducible refine LeO.ite ?_ ?_)
   | (with_reducible refine LeO.bind ?_ (fun _ => ?_))
   | exact spec_KeyOK.mono _ _
   | exact spec_StoreOK.mono _ _ _
   | exact LeO.none _
   | refine LeO.ite ?_ ?_
   | refine LeO.bind ?_ (fun _ => ?_)
set_option maxHeartbeats 8000000 in
set_option maxRecDepth 100000 in
theorem spec_l01Ask.calls (k : Nat) (A0_0 : Option Addr) (c0_0 : Nat) (l0_0 : List (S71)) (a0_1 : Int) (a1 : ByteArray) (r : Int) (w : World) (hr0_0 : Kd.C k71 w A0_0 l0_0.length l0_0) (hc0_0 : l0_0.length ≤ c0_0) (h : spec_l01Ask.f k l0_0 a0_1 a1 = some r) :
  Calls Try.prog 24 #[.agg #[.slice A0_0 l0_0.length c0_0,.int .i64 a0_1],.string a1] w fun e w' => e = .returned (.int .i64 r) ∧ Below w.heap.size w w' := by
 have hu28 := Try.underlying28
 have HR0_0 := Aside0.mk hr0_0
 have HC0_0 := Aside0.mk hc0_0
 clear hr0_0 hc0_0
 have HB := Aside0.mk (Below.refl w.heap.size w)
 have H : (if (a1.size : Int) > 65536 then (some 2) else ((spec_StoreOK.f k l0_0 a0_1).bind fun t117 => (if t117 = true then ((spec_KeyOK.f k a1).bind fun t118 => (if t118 = true then (some 0) else (some 19))) else (some 1)))) = some r := h
 clear h
 by_cases c3 : (a1.size : Int) > 65536
 ·rw [if_pos c3] at H
  have c3b0 : decide (65536 < (a1.size : Int)) = true := decide_eq_true c3
  have c3b1 : decide (65536 < a1.size) = true := decide_eq_true (by omega)
  clear c3
  obtain rfl := Option.some.inj H
  go_enter Try.func24,Try.ntmps24
  go_wp2_with (first | ((with_reducible refine gate_dst (N:=2) rfl ?_); refine box_event ?hg (N:=2) ?hd (cs := #[.slice A0_0 l0_0.length c0_0,.int .i64 a0_1]) (t:=28) ?hr ?_; (case hd => rfl); (case hg => rfl); (case hr => first | (go_simp; done) | (go_simp; rfl)); intro gb116 hg w4 hbox hb; have n0_ := Aside0.mk (below_step bA hb); have n1_ := Aside0.mk (hbox); have n2_ := Aside0.mk ((by rw [hg]; exact (below_size bA) : w.heap.size ≤ gb116)); have n3_ := Aside0.mk ((by rw [hg]; exact (below_size bA) : w.heap.size ≤ gb116)); clear HB; have HB := n0_; have BK116 := n1_; have GW116 := n2_; have GE116 := n3_; clear n0_ n1_ n2_ n3_; clear hb hbox hg))
  go_ret
  exact ⟨by first | rfl | (simp [errW_none,errW_some] <;> rfl) | (simp [*,errW_none,errW_some] <;> rfl),bA⟩
 ·rw [if_neg c3] at H
  have c3b0 : decide (65536 < (a1.size : Int)) = false := decide_eq_false c3
  have c3b1 : decide (65536 < a1.size) = false := decide_eq_false (by omega)
  clear c3
  replace H := Option.bind_eq_some_iff.mp H
  obtain ⟨t117,A50,H⟩ := H
  try dsimp only at H
  have A5 := Aside0.mk A50
  clear A50
  by_cases c6 : t117 = true
  ·subst c6
   rw [if_pos rfl] at H
   replace H := Option.bind_eq_some_iff.mp H
   obtain ⟨t118,A70,H⟩ := H
   try dsimp only at H
   have A7 := Aside0.mk A70
   clear A70
   by_cases c8 : t118 = true
   ·subst c8
    rw [if_pos rfl] at H
    obtain rfl := Option.some.inj H
    go_enter Try.func24,Try.ntmps24
    go_wp2_with (first | ((with_reducible refine gate_dst (N:=2) rfl ?_); refine box_event ?hg (N:=2) ?hd (cs := #[.slice A0_0 l0_0.length c0_0,.int .i64 a0_1]) (t:=28) ?hr ?_; (case hd => rfl); (case hg => rfl); (case hr => first | (go_simp; done) | (go_simp; rfl)); intro gb116 hg w9 hbox hb; have n0_ := Aside0.mk (below_step bA hb); have n1_ := Aside0.mk (hbox); have n2_ := Aside0.mk ((by rw [hg]; exact (below_size bA) : w.heap.size ≤ gb116)); have n3_ := Aside0.mk ((by rw [hg]; exact (below_size bA) : w.heap.size ≤ gb116)); clear HB; have HB := n0_; have BK116 := n1_; have GW116 := n2_; have GE116 := n3_; clear n0_ n1_ n2_ n3_; clear hb hbox hg; have hcz10_0 : w9.cell? ⟨gb116,0,none⟩ = some (.slice A0_0 l0_0.length c0_0) := (blk_cell BK116.out 0).trans rfl; have hcz10_1 : w9.cell? ⟨gb116,1,none⟩ = some (.int .i64 a0_1) := (blk_cell BK116.out 1).trans rfl; have hfz10_0 := blk_frozen BK116.out 0; have hfz10_1 := blk_frozen BK116.out 1) | ((with_reducible refine gate_callee (f:=37) rfl ?_); refine goesL_ (some 11) rfl rfl Try.func37 (by kernel_rfl) rfl #[.agg #[.slice A0_0 l0_0.length c0_0,.int .i64 a0_1]] rfl mA ?_; (with_reducible refine (spec_StoreOK.calls k _ _ l0_0 a0_1 true _ ?side1 ?side2 A5.out).mono ?_); (case side1 => repeat (first | exact (Kd.C_below HR0_0.out HB.out) | (with_reducible refine Kd.C_alloc ?_ _) | (with_reducible refine Kd.C_drewN ?_ _) | (with_reducible refine Kd.C_drew ?_))); (case side2 => exact HC0_0.out); rintro e w11 ⟨rfl,hb⟩; refine ⟨_,rfl,?_⟩; have n0_ := Aside0.mk (blk_below (g:=gb116) (o:=.cells #[.slice A0_0 l0_0.length c0_0,.int .i64 a0_1] 28 (0,0)) (kA BK116.out) hb); have n1_ := Aside0.mk (below_step bA hb); clear BK116; clear HB; have BK116 := n0_; have HB := n1_; clear n0_ n1_; (try clear hb); (try clear hb2); (try clear hk); (try clear hi)) | ((with_reducible refine gate_callee (f:=52) rfl ?_); refine goesL_ (some 15) rfl rfl Try.func52 (by kernel_rfl) rfl #[.string a1] rfl mA ?_; (with_reducible refine (spec_KeyOK.calls k a1 true _ A7.out).mono ?_); rintro e w' ⟨rfl,⟨nd,rfl⟩⟩; refine ⟨_,rfl,?_⟩))
    go_ret
    exact ⟨by first | rfl | (simp [errW_none,errW_some] <;> rfl) | (simp [*,errW_none,errW_some] <;> rfl),bA⟩
   ·replace c8 := Bool.eq_false_iff.mpr c8
    subst c8
    rw [if_neg (show ¬ (false = true) by decide)] at H
    obtain rfl := Option.some.inj H
    go_enter Try.func24,Try.ntmps24
    go_wp2_with (first | ((with_reducible refine gate_dst (N:=2) rfl ?_); refine box_event ?hg (N:=2) ?hd (cs := #[.slice A0_0 l0_0.length c0_0,.int .i64 a0_1]) (t:=28) ?hr ?_; (case hd => rfl); (case hg => rfl); (case hr => first | (go_simp; done) | (go_simp; rfl)); intro gb116 hg w12 hbox hb; have n0_ := Aside0.mk (below_step bA hb); have n1_ := Aside0.mk (hbox); have n2_ := Aside0.mk ((by rw [hg]; exact (below_size bA) : w.heap.size ≤ gb116)); have n3_ := Aside0.mk ((by rw [hg]; exact (below_size bA) : w.heap.size ≤ gb116)); clear HB; have HB := n0_; have BK116 := n1_; have GW116 := n2_; have GE116 := n3_; clear n0_ n1_ n2_ n3_; clear hb hbox hg; have hcz13_0 : w12.cell? ⟨gb116,0,none⟩ = some (.slice A0_0 l0_0.length c0_0) := (blk_cell BK116.out 0).trans rfl; have hcz13_1 : w12.cell? ⟨gb116,1,none⟩ = some (.int .i64 a0_1) := (blk_cell BK116.out 1).trans rfl; have hfz13_0 := blk_frozen BK116.out 0; have hfz13_1 := blk_frozen BK116.out 1) | ((with_reducible refine gate_callee (f:=37) rfl ?_); refine goesL_ (some 11) rfl rfl Try.func37 (by kernel_rfl) rfl #[.agg #[.slice A0_0 l0_0.length c0_0,.int .i64 a0_1]] rfl mA ?_; (with_reducible refine (spec_StoreOK.calls k _ _ l0_0 a0_1 true _ ?side1 ?side2 A5.out).mono ?_); (case side1 => repeat (first | exact (Kd.C_below HR0_0.out HB.out) | (with_reducible refine Kd.C_alloc ?_ _) | (with_reducible refine Kd.C_drewN ?_ _) | (with_reducible refine Kd.C_drew ?_))); (case side2 => exact HC0_0.out); rintro e w14 ⟨rfl,hb⟩; refine ⟨_,rfl,?_⟩; have n0_ := Aside0.mk (blk_below (g:=gb116) (o:=.cells #[.slice A0_0 l0_0.length c0_0,.int .i64 a0_1] 28 (0,0)) (kA BK116.out) hb); have n1_ := Aside0.mk (below_step bA hb); clear BK116; clear HB; have BK116 := n0_; have HB := n1_; clear n0_ n1_; (try clear hb); (try clear hb2); (try clear hk); (try clear hi)) | ((with_reducible refine gate_callee (f:=52) rfl ?_); refine goesL_ (some 15) rfl rfl Try.func52 (by kernel_rfl) rfl #[.string a1] rfl mA ?_; (with_reducible refine (spec_KeyOK.calls k a1 false _ A7.out).mono ?_); rintro e w' ⟨rfl,⟨nd,rfl⟩⟩; refine ⟨_,rfl,?_⟩))
    go_ret
    exact ⟨by first | rfl | (simp [errW_none,errW_some] <;> rfl) | (simp [*,errW_none,errW_some] <;> rfl),bA⟩
  ·replace c6 := Bool.eq_false_iff.mpr c6
   subst c6
   rw [if_neg (show ¬ (false = true) by decide)] at H
   obtain rfl := Option.some.inj H
   go_enter Try.func24,Try.ntmps24
   go_wp2_with (first | ((with_reducible refine gate_dst (N:=2) rfl ?_); refine box_event ?hg (N:=2) ?hd (cs := #[.slice A0_0 l0_0.length c0_0,.int .i64 a0_1]) (t:=28) ?hr ?_; (case hd => rfl); (case hg => rfl); (case hr => first | (go_simp; done) | (go_simp; rfl)); intro gb116 hg w15 hbox hb; have n0_ := Aside0.mk (below_step bA hb); have n1_ := Aside0.mk (hbox); have n2_ := Aside0.mk ((by rw [hg]; exact (below_size bA) : w.heap.size ≤ gb116)); have n3_ := Aside0.mk ((by rw [hg]; exact (below_size bA) : w.heap.size ≤ gb116)); clear HB; have HB := n0_; have BK116 := n1_; have GW116 := n2_; have GE116 := n3_; clear n0_ n1_ n2_ n3_; clear hb hbox hg; have hcz16_0 : w15.cell? ⟨gb116,0,none⟩ = some (.slice A0_0 l0_0.length c0_0) := (blk_cell BK116.out 0).trans rfl; have hcz16_1 : w15.cell? ⟨gb116,1,none⟩ = some (.int .i64 a0_1) := (blk_cell BK116.out 1).trans rfl; have hfz16_0 := blk_frozen BK116.out 0; have hfz16_1 := blk_frozen BK116.out 1) | ((with_reducible refine gate_callee (f:=37) rfl ?_); refine goesL_ (some 11) rfl rfl Try.func37 (by kernel_rfl) rfl #[.agg #[.slice A0_0 l0_0.length c0_0,.int .i64 a0_1]] rfl mA ?_; (with_reducible refine (spec_StoreOK.calls k _ _ l0_0 a0_1 false _ ?side1 ?side2 A5.out).mono ?_); (case side1 => repeat (first | exact (Kd.C_below HR0_0.out HB.out) | (with_reducible refine Kd.C_alloc ?_ _) | (with_reducible refine Kd.C_drewN ?_ _) | (with_reducible refine Kd.C_drew ?_))); (case side2 => exact HC0_0.out); rintro e w17 ⟨rfl,hb⟩; refine ⟨_,rfl,?_⟩; have n0_ := Aside0.mk (blk_below (g:=gb116) (o:=.cells #[.slice A0_0 l0_0.length c0_0,.int .i64 a0_1] 28 (0,0)) (kA BK116.out) hb); have n1_ := Aside0.mk (below_step bA hb); clear BK116; clear HB; have BK116 := n0_; have HB := n1_; clear n0_ n1_; (try clear hb); (try clear hb2); (try clear hk); (try clear hi)))
   go_ret
   exact ⟨by first | rfl | (simp [errW_none,errW_some] <;> rfl) | (simp [*,errW_none,errW_some] <;> rfl),bA⟩

/-! ### spec_l01Find: function 53 -/
def spec_l01Find.l0 : Nat → ByteArray → Int → List (S71) → Int → Option (Int)
 | 0,_,_,_,_ => none
 | k + 1,x1,x5,x120000,x120001 => if x5 < (x120000.length : Int) then (if 0 ≤ x5 then (if ((rd_T71 x120000 x5).f0).toList = x1.toList then (some x5) else (spec_l01Find.l0 k x1 (wrap64 (x5 + 1)) x120000 x120001)) else (none)) else (some (-1))
def spec_l01Find.f (k : Nat) (l0_0 : List (S71)) (a0_1 : Int) (a1 : ByteArray) : Option (Int) := spec_l01Find.l0 k a1 0 l0_0 a0_1
theorem spec_l01Find.mono_l : ∀ k,(∀ y0 y1 y2 y3,LeO (spec_l01Find.l0 k y0 y1 y2 y3) (spec_l01Find.l0 (k + 1) y0 y1 y2 y3))
 | 0 => fun _ _ _ _ r h => by simp [spec_l01Find.l0] at h
 | k + 1 => by
  have ih0 := spec_l01Find.mono_l k
  ·intro y0 y1 y2 y3
   unfold spec_l01Find.l0
   repeat' first
   | (with_reducible exact ih0 _ _ _ _)
   | (with_reducible exact LeO.refl _)
   | (with_reducible exact LeO.none _)
   | (with_reducible refine LeO.ite ?_ ?_)
   | (with_reducible refine LeO.bind ?_ (fun _ => ?_))
   | exact ih0 _ _ _ _
   | exact LeO.none _
   | refine LeO.ite ?_ ?_
   | refine LeO.bind ?_ (fun _ => ?_)
theorem spec_l01Find.mono : ∀ a0 a1 a2 k,LeO (spec_l01Find.f k a0 a1 a2) (spec_l01Find.f (k + 1) a0 a1 a2) := by
 intro a0 a1 a2 k
 have ih0 := spec_l01Find.mono_l k
 unfold spec_l01Find.f
 repeat' first
   | (with_reducible exact ih0 _ _ _ _)
   | (with_reducible exact LeO.refl _)
   | (with_reducible exact LeO.none _)
   | (with_reducible refine LeO.ite ?_ ?_)
   | (with_reducible refine LeO.bind ?_ (fun _ => ?_))
   | exact ih0 _ _ _ _
   | exact LeO.none _
   | refine LeO.ite ?_ ?_
   | refine LeO.bind ?_ (fun _ => ?_)
set_option maxHeartbeats 8000000 in
set_option maxRecDepth 100000 in
theorem spec_l01Find.calls (k : Nat) (A0_0 : Option Addr) (c0_0 : Nat) (l0_0 : List (S71)) (a0_1 : Int) (a1 : ByteArray) (r : Int) (w : World) (hr0_0 : Kd.C k71 w A0_0 l0_0.length l0_0) (hc0_0 : l0_0.length ≤ c0_0) (h : spec_l01Find.f k l0_0 a0_1 a1 = some r) :
  Calls Try.prog 53 #[.agg #[.slice A0_0 l0_0.length c0_0,.int .i64 a0_1],.string a1] w fun e w' => e = .returned (.int .i64 r) ∧ Below w.heap.size w w' := by
 have hu28 := Try.underlying28
 have HR0_0 := Aside0.mk hr0_0
 have HC0_0 := Aside0.mk hc0_0
 clear hr0_0 hc0_0
 have HB := Aside0.mk (Below.refl w.heap.size w)
 have H : (spec_l01Find.l0 k a1 0 l0_0 a0_1) = some r := h
 clear h
 have H' := Aside0.mk H
 clear H
 go_enter Try.func53,Try.ntmps53
 go_wp2_with (first | ((with_reducible refine gate_dst (N:=2) rfl ?_); refine box_event ?hg (N:=2) ?hd (cs := #[.slice A0_0 l0_0.length c0_0,.int .i64 a0_1]) (t:=28) ?hr ?_; (case hd => rfl); (case hg => rfl); (case hr => first | (go_simp; done) | (go_simp; rfl)); intro gb119 hg w3 hbox hb; have n0_ := Aside0.mk (below_step bA hb); have n1_ := Aside0.mk (hbox); have n2_ := Aside0.mk ((by rw [hg]; exact (below_size bA) : w.heap.size ≤ gb119)); have n3_ := Aside0.mk ((by rw [hg]; exact (below_size bA) : w.heap.size ≤ gb119)); clear HB; have HB := n0_; have BK119 := n1_; have GW119 := n2_; have GE119 := n3_; clear n0_ n1_ n2_ n3_; clear hb hbox hg))
 go_loopg [5] k (fun kq v5 w' => ∃ (x5_1 : Int),v5 = .int .i64 x5_1 ∧ Aside0 (spec_l01Find.l0 kq a1 x5_1 l0_0 a0_1 = some r) ∧ Aside0 (kq ≤ k) ∧ Aside0 (w'.heap[gb119]? = some (.cells #[(.slice A0_0 l0_0.length c0_0),.int .i64 a0_1] 28 (0,0))) ∧ Aside0 (Below w.heap.size w w'))
 case atStart => exact ⟨(0),(by first | rfl | (simp; done) | (simp [*]; done)),H',⟨Nat.le_refl _⟩,⟨kA BK119.out⟩,⟨bA⟩⟩
 case round =>
  clear H'
  try clear p2
  obtain ⟨x5_1,rfl,HA,HK1,BK119,HB⟩ := hrel
  cases gk with
  | zero => exact absurd HA.out (by simp [spec_l01Find.l0])
  | succ k1 =>
   have H := HA.out
   clear HA
   simp only [spec_l01Find.l0] at H
   by_cases c4 : x5_1 < (l0_0.length : Int)
   ·rw [if_pos c4] at H
    have c4b0 : decide (x5_1 < (l0_0.length : Int)) = true := decide_eq_true c4
    clear c4
    by_cases c5 : 0 ≤ x5_1
    ·rw [if_pos c5] at H
     have c5b0 : decide (0 ≤ x5_1) = true := decide_eq_true c5
     clear c5
     by_cases c6 : ((rd_T71 l0_0 x5_1).f0).toList = a1.toList
     ·rw [if_pos c6] at H
      have c6b0 : (((rd_T71 l0_0 x5_1).f0).toList == a1.toList) = true := beq_iff_eq.mpr c6
      have c6b1 : (((rd_T71 l0_0 x5_1).f0).toList != a1.toList) = false := bne_eq_false_iff_eq.mpr c6
      clear c6
      obtain rfl := Option.some.inj H
      have hcz7_0 : wr.cell? ⟨gb119,0,none⟩ = some (.slice A0_0 l0_0.length c0_0) := (blk_cell BK119.out 0).trans rfl
      have hcz7_1 : wr.cell? ⟨gb119,1,none⟩ = some (.int .i64 a0_1) := (blk_cell BK119.out 1).trans rfl
      have hfz7_0 := blk_frozen BK119.out 0
      have hfz7_1 := blk_frozen BK119.out 1
      have p120 : 0 ≤ (x5_1 : Int) := of_decide_eq_true (by first | (with_reducible assumption) | assumption)
      have q120 : x5_1 < (l0_0.length : Int) := of_decide_eq_true (by first | (with_reducible assumption) | assumption)
      obtain ⟨ad120,e120,hx120_0,hx120_1,hx120_2⟩ := at_T71 HR0_0.out x5_1 p120 q120
      cases e120
      replace hx120_0 := (HB.out.cell (World.block_lt_of_cell? w _ hx120_0)).trans hx120_0
      replace hx120_1 := (HB.out.cell (World.block_lt_of_cell? w _ hx120_1)).trans hx120_1
      replace hx120_2 := (HB.out.cell (World.block_lt_of_cell? w _ hx120_2)).trans hx120_2
      replace p120 := eq_true p120
      replace q120 := eq_true q120
      go_wp2
      go_ret
      exact ⟨by first | rfl | (simp only [i64_w,i32_w] <;> rfl) | (simp [errW_none,errW_some] <;> rfl) | (simp [*,errW_none,errW_some] <;> rfl),bA⟩
     ·rw [if_neg c6] at H
      have c6b0 : (((rd_T71 l0_0 x5_1).f0).toList == a1.toList) = false := beq_eq_false_iff_ne.mpr c6
      have c6b1 : (((rd_T71 l0_0 x5_1).f0).toList != a1.toList) = true := bne_iff_ne.mpr c6
      have H' := Aside0.mk H
      clear H
      have hcz8_0 : wr.cell? ⟨gb119,0,none⟩ = some (.slice A0_0 l0_0.length c0_0) := (blk_cell BK119.out 0).trans rfl
      have hcz8_1 : wr.cell? ⟨gb119,1,none⟩ = some (.int .i64 a0_1) := (blk_cell BK119.out 1).trans rfl
      have hfz8_0 := blk_frozen BK119.out 0
      have hfz8_1 := blk_frozen BK119.out 1
      have p120 : 0 ≤ (x5_1 : Int) := of_decide_eq_true (by first | (with_reducible assumption) | assumption)
      have q120 : x5_1 < (l0_0.length : Int) := of_decide_eq_true (by first | (with_reducible assumption) | assumption)
      obtain ⟨ad120,e120,hx120_0,hx120_1,hx120_2⟩ := at_T71 HR0_0.out x5_1 p120 q120
      cases e120
      replace hx120_0 := (HB.out.cell (World.block_lt_of_cell? w _ hx120_0)).trans hx120_0
      replace hx120_1 := (HB.out.cell (World.block_lt_of_cell? w _ hx120_1)).trans hx120_1
      replace hx120_2 := (HB.out.cell (World.block_lt_of_cell? w _ hx120_2)).trans hx120_2
      replace p120 := eq_true p120
      replace q120 := eq_true q120
      go_wp2
      go_roundg k1
      case measure => have := HK1.out; omega
      case rel => exact ⟨(wrap64 (x5_1 + 1)),(by first | rfl | (simp; done) | (simp [*]; done)),H',⟨by have := HK1.out; omega⟩,⟨kA BK119.out⟩,⟨bA⟩⟩
    ·rw [if_neg c5] at H
     exact absurd H (by simp)
   ·rw [if_neg c4] at H
    have c4b0 : decide (x5_1 < (l0_0.length : Int)) = false := decide_eq_false c4
    clear c4
    obtain rfl := Option.some.inj H
    have hcz9_0 : wr.cell? ⟨gb119,0,none⟩ = some (.slice A0_0 l0_0.length c0_0) := (blk_cell BK119.out 0).trans rfl
    have hcz9_1 : wr.cell? ⟨gb119,1,none⟩ = some (.int .i64 a0_1) := (blk_cell BK119.out 1).trans rfl
    have hfz9_0 := blk_frozen BK119.out 0
    have hfz9_1 := blk_frozen BK119.out 1
    go_wp2
    go_ret
    exact ⟨by first | rfl | (simp only [i64_w,i32_w] <;> rfl) | (simp [errW_none,errW_some] <;> rfl) | (simp [*,errW_none,errW_some] <;> rfl),bA⟩

/-! ### spec_l01Delete: function 25 -/
def spec_l01Delete.f (k : Nat) (l0_0 : List (S71)) (a0_1 : Int) (a1 : ByteArray) (a2 : Int) : Option ((List (S71)) × Int × Int) := (spec_l01Find.f k l0_0 a0_1 a1).bind fun t123 => (if t123 < 0 then (some (l0_0,a0_1,5)) else (if 0 ≤ t123 then (if t123 < (l0_0.length : Int) then (if ((rd_T71 l0_0 t123).f1) = a2 then ((some (([] : List (S71)) : List (S71))).bind fun y125 => (if t123 ≤ (l0_0.length : Int) then ((some (l0_0.take (t123 : Int).toNat : List (S71))).bind fun y128 => (if y125.length + y128.length < 3518437208883 then ((some (y125 ++ y128 : List (S71))).bind fun y132 => (if 0 ≤ (wrap64 (t123 + 1)) then (if (wrap64 (t123 + 1)) ≤ (l0_0.length : Int) then ((some (l0_0.drop ((wrap64 (t123 + 1)) : Int).toNat : List (S71))).bind fun y135 => (if y132.length + y135.length < 3518437208883 then (some ((y132 ++ y135),a0_1,0)) else (none))) else (none)) else (none))) else (none))) else (none))) else (some (l0_0,a0_1,10))) else (none)) else (none)))
theorem spec_l01Delete.mono : ∀ a0 a1 a2 a3 k,LeO (spec_l01Delete.f k a0 a1 a2 a3) (spec_l01Delete.f (k + 1) a0 a1 a2 a3) := by
 intro a0 a1 a2 a3 k
 unfold spec_l01Delete.f
 repeat' first
   | (with_reducible exact spec_l01Find.mono _ _ _ _)
   | (with_reducible exact LeO.refl _)
   | (with_reducible exact LeO.none _)
   | (with_reducible refine LeO.ite ?_ ?_)
   | (with_reducible refine LeO.bind ?_ (fun _ => ?_))
   | exact spec_l01Find.mono _ _ _ _
   | exact LeO.none _
   | refine LeO.ite ?_ ?_
   | refine LeO.bind ?_ (fun _ => ?_)
def spec_l01Delete.T6 : Bool × List (List Nat × List Nat) := (true,[([],[]),([],[]),([1],[1]),([],[]),([2,3],[2,3]),([0,4],[0,4]),([],[]),([6],[6]),([],[]),([8],[8]),([7,9],[7,9]),([5,10,5],[5,10]),([0,1,2,3,4,5,6,7,8,9,10,11],[]),([12,11,11,0,1,2,3,4,5,6,7,8,9,10,11],[11,12])])
def spec_l01Delete.B6 : List Nat := [0,0,2,0,14,31,0,64,0,256,960,2047,4095,8191]
theorem spec_l01Delete.tab6 : rtab .any (opsOf Try.f25 6) = spec_l01Delete.T6 := by kernel_rfl
theorem spec_l01Delete.bits6 : waitsOk spec_l01Delete.T6.2 spec_l01Delete.B6 = true := by kernel_rfl
set_option maxHeartbeats 8000000 in
set_option maxRecDepth 100000 in
theorem spec_l01Delete.calls (k : Nat) (P0_0_ : Nat → Prop) (u9000_ : Value) (l0_0 : List (S71)) (a0_1 : Int) (a1 : ByteArray) (a2 : Int) (r1 : List (S71)) (r2 : Int) (r3 : Int) (w0 w : World) (hB : Below w0.heap.size w0 w) (ho0_0 : Kd.R k71 71 w w0.heap.size P0_0_ u9000_ l0_0) (h : spec_l01Delete.f k l0_0 a0_1 a1 a2 = some (r1,r2,r3)) :
  Calls Try.prog 25 #[.agg #[u9000_,.int .i64 a0_1],.string a1,.int .i64 a2] w fun e w' => ∃ v0_ : Value,e = .returned (.tuple #[.agg #[v0_,.int .i64 r2],.int .i64 r3]) ∧ Kd.R k71 71 w' w0.heap.size (fun k_ => (P0_0_ k_ ∨ w.heap.size ≤ k_)) v0_ r1 ∧ Below w0.heap.size w0 w' ∧ Kept w w' (fun k_ => P0_0_ k_) := by
 have hu28 := Try.underlying28
 have HO0_0 := Aside0.mk (show Kd.R k71 71 w w0.heap.size (fun k_ => (P0_0_ k_ ∨ w.heap.size ≤ k_)) u9000_ l0_0 from Kd.R_mono ho0_0 (fun k_ hk => (.inl hk)))
 have HK := Aside0.mk (Kept.refl w (fun k_ => P0_0_ k_))
 have HW0 := Aside0.mk hB.size
 have HB := Aside0.mk hB
 clear hB
 have H : ((spec_l01Find.f k l0_0 a0_1 a1).bind fun t123 => (if t123 < 0 then (some (l0_0,a0_1,5)) else (if 0 ≤ t123 then (if t123 < (l0_0.length : Int) then (if ((rd_T71 l0_0 t123).f1) = a2 then ((some (([] : List (S71)) : List (S71))).bind fun y125 => (if t123 ≤ (l0_0.length : Int) then ((some (l0_0.take (t123 : Int).toNat : List (S71))).bind fun y128 => (if y125.length + y128.length < 3518437208883 then ((some (y125 ++ y128 : List (S71))).bind fun y132 => (if 0 ≤ (wrap64 (t123 + 1)) then (if (wrap64 (t123 + 1)) ≤ (l0_0.length : Int) then ((some (l0_0.drop ((wrap64 (t123 + 1)) : Int).toNat : List (S71))).bind fun y135 => (if y132.length + y135.length < 3518437208883 then (some ((y132 ++ y135),a0_1,0)) else (none))) else (none)) else (none))) else (none))) else (none))) else (some (l0_0,a0_1,10))) else (none)) else (none)))) = some (r1,r2,r3) := h
 clear h
 replace H := Option.bind_eq_some_iff.mp H
 obtain ⟨t123,A40,H⟩ := H
 try dsimp only at H
 have A4 := Aside0.mk A40
 clear A40
 by_cases c5 : t123 < 0
 ·rw [if_pos c5] at H
  have c5b0 : decide (t123 < 0) = true := decide_eq_true c5
  clear c5
  simp only [Option.some.injEq,Prod.mk.injEq] at H
  obtain ⟨rfl,rfl,rfl⟩ := H
  obtain ⟨Ao6,co6,eo6⟩ := Kd.R_slice HO0_0.out
  subst eo6
  go_enter Try.func25,Try.ntmps25
  go_wp2_with (first | ((with_reducible refine gate_dst (N:=3) rfl ?_); refine box_event ?hg (N:=3) ?hd (cs := #[.slice Ao6 l0_0.length co6,.int .i64 a0_1]) (t:=28) ?hr ?_; (case hd => rfl); (case hg => rfl); (case hr => first | (go_simp; done) | (go_simp; rfl)); intro gb121 hg w7 hbox hb; have n0_ := Aside0.mk (Kd.R_below (rA HO0_0.out) hb); have n1_ := Aside0.mk (Kept.below (S:=(fun k_ => P0_0_ k_)) (by repeat (first | (with_reducible first | exact HK.out | apply Kept.alloc | apply Kept.drewN | apply Kept.drew) | exact HK.out)) hb); have n2_ := Aside0.mk (below_step bA hb); have n3_ := Aside0.mk (hbox); have n4_ := Aside0.mk ((by rw [hg]; exact (by first | exact HK.out.1 | exact (show Kept w _ (fun k_ => P0_0_ k_) from by repeat (first | (with_reducible first | exact HK.out | apply Kept.alloc | apply Kept.drewN | apply Kept.drew) | exact HK.out)).1) : w.heap.size ≤ gb121)); have n5_ := Aside0.mk ((by rw [hg]; exact (below_size bA) : w0.heap.size ≤ gb121)); clear HO0_0; clear HK; clear HB; have HO0_0 := n0_; have HK := n1_; have HB := n2_; have BK121 := n3_; have GW121 := n4_; have GE121 := n5_; clear n0_ n1_ n2_ n3_ n4_ n5_; clear hb hbox hg) | ((with_reducible refine gate_dst (N:=6) rfl ?_); refine box_event ?hg (N:=6) ?hd (cs := #[.slice none 0 0,.int .i64 0]) (t:=28) ?hr ?_; (case hd => rfl); (case hg => rfl); (case hr => first | (go_simp; done) | (go_simp; rfl)); intro gb122 hg w8 hbox hb; have n0_ := Aside0.mk (Kd.R_below (rA HO0_0.out) hb); have n1_ := Aside0.mk (blk_below (g:=gb121) (o:=.cells #[.slice Ao6 l0_0.length co6,.int .i64 a0_1] 28 (0,0)) (kA BK121.out) hb); have n2_ := Aside0.mk (Kept.below (S:=(fun k_ => P0_0_ k_)) (by repeat (first | (with_reducible first | exact HK.out | apply Kept.alloc | apply Kept.drewN | apply Kept.drew | refine Kept.setCell ?_ (.inr GW121.out) _) | exact HK.out)) hb); have n3_ := Aside0.mk (below_step bA hb); have n4_ := Aside0.mk (hbox); have n5_ := Aside0.mk ((by rw [hg]; exact (by first | exact HK.out.1 | exact (show Kept w _ (fun k_ => P0_0_ k_) from by repeat (first | (with_reducible first | exact HK.out | apply Kept.alloc | apply Kept.drewN | apply Kept.drew | refine Kept.setCell ?_ (.inr GW121.out) _) | exact HK.out)).1) : w.heap.size ≤ gb122)); have n6_ := Aside0.mk ((by rw [hg]; exact (below_size bA) : w0.heap.size ≤ gb122)); have n7_ := Aside0.mk ((by rw [hg]; exact Nat.ne_of_lt (blk_lt (g:=gb121) (o:=.cells #[.slice Ao6 l0_0.length co6,.int .i64 a0_1] 28 (0,0)) (kA BK121.out)) : gb121 ≠ gb122)); have n8_ := Aside0.mk ((by rw [hg]; exact Nat.ne_of_gt (blk_lt (g:=gb121) (o:=.cells #[.slice Ao6 l0_0.length co6,.int .i64 a0_1] 28 (0,0)) (kA BK121.out)) : gb122 ≠ gb121)); clear HO0_0; clear BK121; clear HK; clear HB; have HO0_0 := n0_; have BK121 := n1_; have HK := n2_; have HB := n3_; have BK122 := n4_; have GW122 := n5_; have GE122 := n6_; have NB121_122 := n7_; have NB122_121 := n8_; clear n0_ n1_ n2_ n3_ n4_ n5_ n6_ n7_ n8_; clear hb hbox hg; have hnb9 := NB121_122.out; have hnc9 := NB122_121.out; have hcz10_0 : w8.cell? ⟨gb121,0,none⟩ = some (.slice Ao6 l0_0.length co6) := (blk_cell BK121.out 0).trans rfl; have hcz10_1 : w8.cell? ⟨gb121,1,none⟩ = some (.int .i64 a0_1) := (blk_cell BK121.out 1).trans rfl; have hfz10_0 := blk_frozen BK121.out 0; have hfz10_1 := blk_frozen BK121.out 1) | ((with_reducible refine gate_callee (f:=53) rfl ?_); refine goesL_ (some 11) rfl rfl Try.func53 (by kernel_rfl) rfl #[.agg #[.slice Ao6 l0_0.length co6,.int .i64 a0_1],.string a1] rfl mA ?_; (with_reducible refine (spec_l01Find.calls k _ _ l0_0 a0_1 a1 t123 _ ?side1 ?side2 A4.out).mono ?_); (case side1 => repeat (first | exact (Kd.R_reads' HO0_0.out).2.2 | (with_reducible refine Kd.C_alloc ?_ _) | (with_reducible refine Kd.C_drewN ?_ _) | (with_reducible refine Kd.C_drew ?_))); (case side2 => exact (Kd.R_reads' HO0_0.out).2.1); rintro e w11 ⟨rfl,hb⟩; refine ⟨_,rfl,?_⟩; have n0_ := Aside0.mk (Kd.R_below (rA HO0_0.out) hb); have n1_ := Aside0.mk (blk_below (g:=gb121) (o:=.cells #[.slice Ao6 l0_0.length co6,.int .i64 a0_1] 28 (0,0)) (kA BK121.out) hb); have n2_ := Aside0.mk (blk_below (g:=gb122) (o:=.cells #[.slice none 0 0,.int .i64 0] 28 (0,0)) (kA BK122.out) hb); have n3_ := Aside0.mk (Kept.below (S:=(fun k_ => P0_0_ k_)) (by repeat (first | (with_reducible first | exact HK.out | apply Kept.alloc | apply Kept.drewN | apply Kept.drew | refine Kept.setCell ?_ (.inr GW121.out) _ | refine Kept.setCell ?_ (.inr GW122.out) _) | exact HK.out)) hb); have n4_ := Aside0.mk (below_step bA hb); clear HO0_0; clear BK121; clear BK122; clear HK; clear HB; have HO0_0 := n0_; have BK121 := n1_; have BK122 := n2_; have HK := n3_; have HB := n4_; clear n0_ n1_ n2_ n3_ n4_; (try clear hb); (try clear hb2); (try clear hk); (try clear hi); have hcz12_0 : w11.cell? ⟨gb121,0,none⟩ = some (.slice Ao6 l0_0.length co6) := (blk_cell BK121.out 0).trans rfl; have hcz12_1 : w11.cell? ⟨gb121,1,none⟩ = some (.int .i64 a0_1) := (blk_cell BK121.out 1).trans rfl; have hfz12_0 := blk_frozen BK121.out 0; have hfz12_1 := blk_frozen BK121.out 1; have hcz13_0 : w11.cell? ⟨gb122,0,none⟩ = some (.slice none 0 0) := (blk_cell BK122.out 0).trans rfl; have hcz13_1 : w11.cell? ⟨gb122,1,none⟩ = some (.int .i64 0) := (blk_cell BK122.out 1).trans rfl; have hfz13_0 := blk_frozen BK122.out 0; have hfz13_1 := blk_frozen BK122.out 1))
  refine bodyPost_ret (results_ct rfl _ _ gb122 28 #[.slice Ao6 l0_0.length co6,.int .i64 a0_1] (0,0) _ rfl (by (with_reducible repeat (first | refine blk_drewN ?_ _ | refine blk_drew ?_ | refine blk_alloc ?_ _)); refine blk_put (cs := #[.slice Ao6 l0_0.length co6,.int .i64 0]) ?_ 1 _ rfl; (with_reducible repeat (first | refine blk_drewN ?_ _ | refine blk_drew ?_ | refine blk_alloc ?_ _)); refine blk_put (cs := #[.slice none 0 0,.int .i64 0]) ?_ 0 _ rfl; (with_reducible repeat (first | refine blk_drewN ?_ _ | refine blk_drew ?_ | refine blk_alloc ?_ _)); exact BK122.out) Try.underlying28 rfl (by kernel_rfl)) rfl ?_
  exact ⟨_,by first | rfl | (simp only [i64_w,i32_w] <;> rfl) | (simp [errW_none,errW_some] <;> rfl) | (simp [*,errW_none,errW_some] <;> rfl),by (with_reducible repeat (first | apply Kd.R_alloc | apply Kd.R_drewN | apply Kd.R_drew)); exact Kd.R_mono (Kd.R_far (p:=⟨gb122,1,none⟩) (Kd.R_far (p:=⟨gb122,0,none⟩) (Kd.R_types HO0_0.out BK122.out (by decide)) (fun _ hk => hk.2) (.slice Ao6 l0_0.length co6)) (fun _ hk => hk.2) (.int .i64 a0_1)) (fun _ hk => hk.1),bA,by repeat (first | (with_reducible first | exact HK.out | apply Kept.alloc | apply Kept.drewN | apply Kept.drew | refine Kept.setCell ?_ (.inr GW121.out) _ | refine Kept.setCell ?_ (.inr GW122.out) _) | exact HK.out)⟩
 ·rw [if_neg c5] at H
  have c5b0 : decide (t123 < 0) = false := decide_eq_false c5
  clear c5
  by_cases c14 : 0 ≤ t123
  ·rw [if_pos c14] at H
   have c14b0 : decide (0 ≤ t123) = true := decide_eq_true c14
   clear c14
   by_cases c15 : t123 < (l0_0.length : Int)
   ·rw [if_pos c15] at H
    have c15b0 : decide (t123 < (l0_0.length : Int)) = true := decide_eq_true c15
    clear c15
    by_cases c16 : ((rd_T71 l0_0 t123).f1) = a2
    ·rw [if_pos c16] at H
     have c16b0 : (((rd_T71 l0_0 t123).f1) == a2) = true := beq_iff_eq.mpr c16
     have c16b1 : (((rd_T71 l0_0 t123).f1) != a2) = false := bne_eq_false_iff_eq.mpr c16
     clear c16
     obtain ⟨y125,hy125⟩ : ∃ y_ : List (S71),y_ = (([] : List (S71))) := ⟨_,rfl⟩
     replace H : (if t123 ≤ (l0_0.length : Int) then ((some (l0_0.take (t123 : Int).toNat : List (S71))).bind fun y128 => (if y125.length + y128.length < 3518437208883 then ((some (y125 ++ y128 : List (S71))).bind fun y132 => (if 0 ≤ (wrap64 (t123 + 1)) then (if (wrap64 (t123 + 1)) ≤ (l0_0.length : Int) then ((some (l0_0.drop ((wrap64 (t123 + 1)) : Int).toNat : List (S71))).bind fun y135 => (if y132.length + y135.length < 3518437208883 then (some ((y132 ++ y135),a0_1,0)) else (none))) else (none)) else (none))) else (none))) else (none)) = some (r1,r2,r3) := by first | (rw [hy125]; with_reducible exact H) | (have H2_ := (Option.bind_some _ _).symm.trans H; rw [hy125]; with_reducible exact H2_) | (have H2_ := (Option.bind_some _ _).symm.trans H; with_reducible exact H2_) | with_reducible exact H | (rw [hy125]; exact H) | exact H
     have Ny125 := Aside0.mk hy125
     clear hy125
     have c17b0 := eq_true (of_decide_eq_true (by first | (with_reducible assumption) | assumption) : 0 ≤ t123)
     by_cases c18 : t123 ≤ (l0_0.length : Int)
     ·rw [if_pos c18] at H
      have c18b0 := eq_true c18
      have c18b1 : decide (t123 ≤ (l0_0.length : Int)) = true := decide_eq_true c18
      clear c18
      obtain ⟨y128,hy128⟩ : ∃ y_ : List (S71),y_ = (l0_0.take (t123 : Int).toNat) := ⟨_,rfl⟩
      replace H : (if y125.length + y128.length < 3518437208883 then ((some (y125 ++ y128 : List (S71))).bind fun y132 => (if 0 ≤ (wrap64 (t123 + 1)) then (if (wrap64 (t123 + 1)) ≤ (l0_0.length : Int) then ((some (l0_0.drop ((wrap64 (t123 + 1)) : Int).toNat : List (S71))).bind fun y135 => (if y132.length + y135.length < 3518437208883 then (some ((y132 ++ y135),a0_1,0)) else (none))) else (none)) else (none))) else (none)) = some (r1,r2,r3) := by first | (rw [hy128]; with_reducible exact H) | (have H2_ := (Option.bind_some _ _).symm.trans H; rw [hy128]; with_reducible exact H2_) | (have H2_ := (Option.bind_some _ _).symm.trans H; with_reducible exact H2_) | with_reducible exact H | (rw [hy128]; exact H) | exact H
      have Ny128 := Aside0.mk hy128
      clear hy128
      by_cases c19 : y125.length + y128.length < 3518437208883
      ·rw [if_pos c19] at H
       have LMc19 := Aside0.mk c19
       clear c19
       obtain ⟨y132,hy132⟩ : ∃ y_ : List (S71),y_ = (y125 ++ y128) := ⟨_,rfl⟩
       replace H : (if 0 ≤ (wrap64 (t123 + 1)) then (if (wrap64 (t123 + 1)) ≤ (l0_0.length : Int) then ((some (l0_0.drop ((wrap64 (t123 + 1)) : Int).toNat : List (S71))).bind fun y135 => (if y132.length + y135.length < 3518437208883 then (some ((y132 ++ y135),a0_1,0)) else (none))) else (none)) else (none)) = some (r1,r2,r3) := by first | (rw [hy132]; with_reducible exact H) | (have H2_ := (Option.bind_some _ _).symm.trans H; rw [hy132]; with_reducible exact H2_) | (have H2_ := (Option.bind_some _ _).symm.trans H; with_reducible exact H2_) | with_reducible exact H | (rw [hy132]; exact H) | exact H
       have Ny132 := Aside0.mk hy132
       clear hy132
       obtain ⟨ji20,hji20⟩ : ∃ j_ : Int,(wrap64 (t123 + 1)) = j_ := ⟨_,rfl⟩
       replace H : (if 0 ≤ (ji20) then (if (ji20) ≤ (l0_0.length : Int) then ((some (l0_0.drop ((ji20) : Int).toNat : List (S71))).bind fun y135 => (if y132.length + y135.length < 3518437208883 then (some ((y132 ++ y135),a0_1,0)) else (none))) else (none)) else (none)) = some (r1,r2,r3) := by first | (rw [hji20] at H; exact H) | (simp only [hji20] at H ⊢; exact H)
       (try rw [hji20] at A4)
       have hji20w : (IntKind.i64.wrap (t123 + 1)) = ji20 := (i64_w _).trans hji20
       by_cases c21 : 0 ≤ (ji20)
       ·rw [if_pos c21] at H
        have c21b0 := eq_true c21
        have c21b1 : decide (0 ≤ (ji20)) = true := decide_eq_true c21
        clear c21
        by_cases c22 : (ji20) ≤ (l0_0.length : Int)
        ·rw [if_pos c22] at H
         have c22b0 := eq_true c22
         have c22b1 : decide ((ji20) ≤ (l0_0.length : Int)) = true := decide_eq_true c22
         clear c22
         obtain ⟨y135,hy135⟩ : ∃ y_ : List (S71),y_ = (l0_0.drop ((ji20) : Int).toNat) := ⟨_,rfl⟩
         replace H : (if y132.length + y135.length < 3518437208883 then (some ((y132 ++ y135),a0_1,0)) else (none)) = some (r1,r2,r3) := by first | (rw [hy135]; with_reducible exact H) | (have H2_ := (Option.bind_some _ _).symm.trans H; rw [hy135]; with_reducible exact H2_) | (have H2_ := (Option.bind_some _ _).symm.trans H; with_reducible exact H2_) | with_reducible exact H | (rw [hy135]; exact H) | exact H
         have Ny135 := Aside0.mk hy135
         clear hy135
         by_cases c23 : y132.length + y135.length < 3518437208883
         ·rw [if_pos c23] at H
          have LMc23 := Aside0.mk c23
          clear c23
          obtain ⟨y139,hy139⟩ : ∃ y_ : List (S71),y_ = (y132 ++ y135) := ⟨_,rfl⟩
          replace H : (some (y139,a0_1,0)) = some (r1,r2,r3) := by first | (rw [hy139]; with_reducible exact H) | (have H2_ := (Option.bind_some _ _).symm.trans H; rw [hy139]; with_reducible exact H2_) | (have H2_ := (Option.bind_some _ _).symm.trans H; with_reducible exact H2_) | with_reducible exact H | (rw [hy139]; exact H) | exact H
          have Ny139 := Aside0.mk hy139
          clear hy139
          simp only [Option.some.injEq,Prod.mk.injEq] at H
          obtain ⟨rfl,rfl,rfl⟩ := H
          obtain ⟨Ao24,co24,eo24⟩ := Kd.R_slice HO0_0.out
          subst eo24
          go_enter Try.func25,Try.ntmps25
          try go_wp2_with (first | ((with_reducible refine gate_dst (N:=3) rfl ?_); refine box_event ?hg (N:=3) ?hd (cs := #[.slice Ao24 l0_0.length co24,.int .i64 a0_1]) (t:=28) ?hr ?_; (case hd => rfl); (case hg => rfl); (case hr => first | (go_simp; done) | (go_simp; rfl)); intro gb121 hg w25 hbox hb; have n0_ := Aside0.mk (Kd.R_below (rA HO0_0.out) hb); have n1_ := Aside0.mk (Kept.below (S:=(fun k_ => P0_0_ k_)) (by repeat (first | (with_reducible first | exact HK.out | apply Kept.alloc | apply Kept.drewN | apply Kept.drew) | exact HK.out)) hb); have n2_ := Aside0.mk (below_step bA hb); have n3_ := Aside0.mk (hbox); have n4_ := Aside0.mk ((by rw [hg]; exact (by first | exact HK.out.1 | exact (show Kept w _ (fun k_ => P0_0_ k_) from by repeat (first | (with_reducible first | exact HK.out | apply Kept.alloc | apply Kept.drewN | apply Kept.drew) | exact HK.out)).1) : w.heap.size ≤ gb121)); have n5_ := Aside0.mk ((by rw [hg]; exact (below_size bA) : w0.heap.size ≤ gb121)); clear HO0_0; clear HK; clear HB; have HO0_0 := n0_; have HK := n1_; have HB := n2_; have BK121 := n3_; have GW121 := n4_; have GE121 := n5_; clear n0_ n1_ n2_ n3_ n4_ n5_; clear hb hbox hg) | ((with_reducible refine gate_dst (N:=6) rfl ?_); refine box_event ?hg (N:=6) ?hd (cs := #[.slice none 0 0,.int .i64 0]) (t:=28) ?hr ?_; (case hd => rfl); (case hg => rfl); (case hr => first | (go_simp; done) | (go_simp; rfl)); intro gb122 hg w26 hbox hb; have n0_ := Aside0.mk (Kd.R_below (rA HO0_0.out) hb); have n1_ := Aside0.mk (blk_below (g:=gb121) (o:=.cells #[.slice Ao24 l0_0.length co24,.int .i64 a0_1] 28 (0,0)) (kA BK121.out) hb); have n2_ := Aside0.mk (Kept.below (S:=(fun k_ => P0_0_ k_)) (by repeat (first | (with_reducible first | exact HK.out | apply Kept.alloc | apply Kept.drewN | apply Kept.drew | refine Kept.setCell ?_ (.inr GW121.out) _) | exact HK.out)) hb); have n3_ := Aside0.mk (below_step bA hb); have n4_ := Aside0.mk (hbox); have n5_ := Aside0.mk ((by rw [hg]; exact (by first | exact HK.out.1 | exact (show Kept w _ (fun k_ => P0_0_ k_) from by repeat (first | (with_reducible first | exact HK.out | apply Kept.alloc | apply Kept.drewN | apply Kept.drew | refine Kept.setCell ?_ (.inr GW121.out) _) | exact HK.out)).1) : w.heap.size ≤ gb122)); have n6_ := Aside0.mk ((by rw [hg]; exact (below_size bA) : w0.heap.size ≤ gb122)); have n7_ := Aside0.mk ((by rw [hg]; exact Nat.ne_of_lt (blk_lt (g:=gb121) (o:=.cells #[.slice Ao24 l0_0.length co24,.int .i64 a0_1] 28 (0,0)) (kA BK121.out)) : gb121 ≠ gb122)); have n8_ := Aside0.mk ((by rw [hg]; exact Nat.ne_of_gt (blk_lt (g:=gb121) (o:=.cells #[.slice Ao24 l0_0.length co24,.int .i64 a0_1] 28 (0,0)) (kA BK121.out)) : gb122 ≠ gb121)); clear HO0_0; clear BK121; clear HK; clear HB; have HO0_0 := n0_; have BK121 := n1_; have HK := n2_; have HB := n3_; have BK122 := n4_; have GW122 := n5_; have GE122 := n6_; have NB121_122 := n7_; have NB122_121 := n8_; clear n0_ n1_ n2_ n3_ n4_ n5_ n6_ n7_ n8_; clear hb hbox hg; have hnb27 := NB121_122.out; have hnc27 := NB122_121.out; have hcz28_0 : w26.cell? ⟨gb121,0,none⟩ = some (.slice Ao24 l0_0.length co24) := (blk_cell BK121.out 0).trans rfl; have hcz28_1 : w26.cell? ⟨gb121,1,none⟩ = some (.int .i64 a0_1) := (blk_cell BK121.out 1).trans rfl; have hfz28_0 := blk_frozen BK121.out 0; have hfz28_1 := blk_frozen BK121.out 1) | ((with_reducible refine gate_callee (f:=53) rfl ?_); refine goesL_ (some 11) rfl rfl Try.func53 (by kernel_rfl) rfl #[.agg #[.slice Ao24 l0_0.length co24,.int .i64 a0_1],.string a1] rfl mA ?_; (with_reducible refine (spec_l01Find.calls k _ _ l0_0 a0_1 a1 t123 _ ?side1 ?side2 A4.out).mono ?_); (case side1 => repeat (first | exact (Kd.R_reads' HO0_0.out).2.2 | (with_reducible refine Kd.C_alloc ?_ _) | (with_reducible refine Kd.C_drewN ?_ _) | (with_reducible refine Kd.C_drew ?_))); (case side2 => exact (Kd.R_reads' HO0_0.out).2.1); rintro e w29 ⟨rfl,hb⟩; refine ⟨_,rfl,?_⟩; have n0_ := Aside0.mk (Kd.R_below (rA HO0_0.out) hb); have n1_ := Aside0.mk (blk_below (g:=gb121) (o:=.cells #[.slice Ao24 l0_0.length co24,.int .i64 a0_1] 28 (0,0)) (kA BK121.out) hb); have n2_ := Aside0.mk (blk_below (g:=gb122) (o:=.cells #[.slice none 0 0,.int .i64 0] 28 (0,0)) (kA BK122.out) hb); have n3_ := Aside0.mk (Kept.below (S:=(fun k_ => P0_0_ k_)) (by repeat (first | (with_reducible first | exact HK.out | apply Kept.alloc | apply Kept.drewN | apply Kept.drew | refine Kept.setCell ?_ (.inr GW121.out) _ | refine Kept.setCell ?_ (.inr GW122.out) _) | exact HK.out)) hb); have n4_ := Aside0.mk (below_step bA hb); clear HO0_0; clear BK121; clear BK122; clear HK; clear HB; have HO0_0 := n0_; have BK121 := n1_; have BK122 := n2_; have HK := n3_; have HB := n4_; clear n0_ n1_ n2_ n3_ n4_; (try clear hb); (try clear hb2); (try clear hk); (try clear hi); have hcz30_0 : w29.cell? ⟨gb121,0,none⟩ = some (.slice Ao24 l0_0.length co24) := (blk_cell BK121.out 0).trans rfl; have hcz30_1 : w29.cell? ⟨gb121,1,none⟩ = some (.int .i64 a0_1) := (blk_cell BK121.out 1).trans rfl; have hfz30_0 := blk_frozen BK121.out 0; have hfz30_1 := blk_frozen BK121.out 1; have p124 : 0 ≤ (t123 : Int) := of_decide_eq_true (by first | (with_reducible assumption) | assumption); have q124 : t123 < (l0_0.length : Int) := of_decide_eq_true (by first | (with_reducible assumption) | assumption); obtain ⟨ad124,e124,hx124_0,hx124_1,hx124_2⟩ := at_T71 (Kd.R_reads' HO0_0.out).2.2 t123 p124 q124; cases e124; replace p124 := eq_true p124; replace q124 := eq_true q124))
          have n0_ := Aside0.mk (Kd.R_drew HO0_0.out)
          have n1_ := Aside0.mk (blk_drew BK121.out)
          have n2_ := Aside0.mk (blk_drew BK122.out)
          have n3_ := Aside0.mk (Kept.drew HK.out)
          have n4_ := Aside0.mk (below_drew1 HB.out)
          clear HO0_0
          clear BK121
          clear BK122
          clear HK
          clear HB
          have HO0_0 := n0_
          have BK121 := n1_
          have BK122 := n2_
          have HK := n3_
          have HB := n4_
          clear n0_ n1_ n2_ n3_ n4_
          have q32 : (t123 : Int) ≤ ((l0_0.length : Int) : Int) := of_decide_eq_true (by first | (with_reducible assumption) | assumption)
          obtain ⟨i032,hi032,_,hsz32,_⟩ := info_parts info71
          have hroom32 : l0_0.length ≤ co24 := (Kd.R_reads' HO0_0.out).2.1
          have hC32 : Kd.C k71 _ (some ad124) l0_0.length l0_0 := (Kd.R_reads' HO0_0.out).2.2
          have hcut32 := cut_to (P:=Try.prog) 26 71 .i64 Try.underlying26 hi032 (some ad124) l0_0.length co24 t123 (of_decide_eq_true (by first | (with_reducible assumption) | assumption)) q32 hroom32
          have hr32 := Kd.C_take (m:=(t123 : Int).toNat) hC32 (by omega)
          have hy32 : y128.length = (t123 : Int).toNat := (by rw [Ny128.out,List.length_take]; omega)
          rw [← Ny128.out] at hr32
          rw [← hy32] at hcut32
          have HR131 := Aside0.mk hr32
          have HC131 := Aside0.mk (show y128.length ≤ co24 from by omega)
          clear hr32 hC32 hroom32 hi032 hsz32
          have KY32 := Aside0.mk hy32
          clear hy32
          have KL32 := Aside0.mk (show (t123 : Int).toNat ≤ l0_0.length from by omega)
          replace q32 := eq_true q32
          have q33 : ((ji20) : Int) ≤ ((l0_0.length : Int) : Int) := of_decide_eq_true (by first | (with_reducible assumption) | assumption)
          obtain ⟨i033,hi033,_,hsz33,_⟩ := info_parts info71
          have hroom33 : l0_0.length ≤ co24 := (Kd.R_reads' HO0_0.out).2.1
          have hC33 : Kd.C k71 _ (some ad124) l0_0.length l0_0 := (Kd.R_reads' HO0_0.out).2.2
          have q033 : (0 : Int) ≤ ((ji20) : Int) := of_decide_eq_true (by first | (with_reducible assumption) | assumption)
          have hcut33 := cut_from (P:=Try.prog) 26 71 .i64 Try.underlying26 hi033 3 hsz33 (some ad124) l0_0.length co24 (ji20) q033 q33
          have hr33 := Kd.C_drop (m:=((ji20) : Int).toNat) (c:=co24) hC33 (by omega) hroom33
          obtain ⟨A33,hA33⟩ : ∃ A1,A1 = (if co24 = ((ji20) : Int).toNat then (some ad124) else ((some ad124) : Option Addr).map (·.add (((ji20) : Int).toNat * 3))) := ⟨_,rfl⟩
          obtain ⟨c33,hc33⟩ : ∃ c1,c1 = co24 - ((ji20) : Int).toNat := ⟨_,rfl⟩
          have hy33 : y135.length = l0_0.length - ((ji20) : Int).toNat := (by rw [Ny135.out,List.length_drop] <;> omega)
          rw [show (l0_0).drop ((ji20) : Int).toNat = y135 from Ny135.out.symm] at hr33
          replace hr33 : Kd.C k71 _ A33 y135.length y135 := (by rw [hA33]; exact hr33)
          rw [← hy33,← hA33,← hc33] at hcut33
          have HR138 := Aside0.mk hr33
          have HC138 := Aside0.mk (show y135.length ≤ c33 from by rw [hy33,hc33]; exact Nat.sub_le_sub_right hroom33 _)
          clear hr33 hC33 hroom33 hi033 hsz33 hc33
          have KY33 := Aside0.mk hy33
          have KA33 := Aside0.mk hA33
          clear hy33 hA33
          have KL33 := Aside0.mk (show ((ji20) : Int).toNat ≤ l0_0.length from by omega)
          replace q33 := eq_true q33
          refine start_ (n:=14) (S:=fun w' => w'.cell? ⟨gb121,0,none⟩ = some (.slice (some ad124) l0_0.length co24) ∧ w'.cell? ⟨gb121,1,none⟩ = some (.int .i64 a0_1)) (ds := [13]) #[false,false,false,false,false,false,false,false,false,false,false,false,false,false] (by kernel_rfl) rfl rfl ⟨(blk_cell BK121.out 0).trans rfl,(blk_cell BK121.out 1).trans rfl⟩ (fun hHeld => ?_); refine with_tabW spec_l01Delete.tab6 spec_l01Delete.bits6 (fun HT_ HW_ => ?_)
          generalize w29.drew = w31 at HO0_0 BK121 BK122 HK HB HR131 HR138 hHeld ⊢
          refine pure_ (i:=1) (N:=some 25) (v:=?_) (a':=?_) #[false,true,false,false,false,false,false,false,false,false,false,false,false,false] rfl rfl (any_of HT_.out (by kernel_rfl)) (fun _ _ _ h => h) (Or.inl ⟨by rfl,?_⟩) ?_ ?_
          rotate_left
          ·intro w'
           go_simp
           with_reducible rfl
          rotate_left
          ·simp only [Act.put,setIfInBounds_toArray,set_cons_zero,set_cons_succ,i64_w,i32_w]
           rfl
          refine pure_ (i:=3) (N:=some 27) (v:=?_) (a':=?_) #[false,true,false,true,false,false,false,false,false,false,false,false,false,false] rfl rfl (any_of HT_.out (by kernel_rfl)) (fun _ _ _ h => h) (Or.inl ⟨by rfl,?_⟩) ?_ ?_
          rotate_left
          ·intro w'
           go_simp
           with_reducible rfl
          rotate_left
          ·simp only [Act.put,setIfInBounds_toArray,set_cons_zero,set_cons_succ,i64_w,i32_w]
           rfl
          refine pure_ (i:=6) (N:=some 30) (v:=?_) (a':=?_) #[false,true,false,true,false,false,true,false,false,false,false,false,false,false] rfl rfl (any_of HT_.out (by kernel_rfl)) (fun _ _ _ h => h) (Or.inl ⟨by rfl,?_⟩) ?_ ?_
          rotate_left
          ·intro w'
           go_simp
           with_reducible rfl
          rotate_left
          ·simp only [Act.put,setIfInBounds_toArray,set_cons_zero,set_cons_succ,i64_w,i32_w]
           rfl
          refine pure_ (i:=8) (N:=some 32) (v:=?_) (a':=?_) #[false,true,false,true,false,false,true,false,true,false,false,false,false,false] rfl rfl (any_of HT_.out (by kernel_rfl)) (fun _ _ _ h => h) (Or.inl ⟨by rfl,?_⟩) ?_ ?_
          rotate_left
          ·intro w'
           go_simp
           with_reducible rfl
          rotate_left
          ·simp only [Act.put,setIfInBounds_toArray,set_cons_zero,set_cons_succ,i64_w,i32_w]
           rfl
          refine pure_ (i:=9) (N:=some 33) (v:=?_) (a':=?_) #[false,true,false,true,false,false,true,false,true,true,false,false,false,false] rfl rfl (any_of HT_.out (by kernel_rfl)) (fun _ _ _ h => h) (Or.inl ⟨by rfl,?_⟩) ?_ ?_
          rotate_left
          ·intro w'
           go_simp
           with_reducible rfl
          rotate_left
          ·simp only [Act.put,setIfInBounds_toArray,set_cons_zero,set_cons_succ,i64_w,i32_w]
           rfl
          refine take_ (i:=2) (N:=some 26) (v:=?_) (a':=?_) #[false,true,true,true,false,false,true,false,true,true,false,false,false,false] rfl rfl (take_ofW HT_.out HW_.out (by kernel_rfl)) (fun _ _ _ h => h) (Or.inl ⟨by rfl,?_⟩) hHeld ?_ ?_
          rotate_left
          ·rintro w' ⟨s0,s1⟩
           go_simp
           with_reducible rfl
          rotate_left
          ·simp only [Act.put,setIfInBounds_toArray,set_cons_zero,set_cons_succ,i64_w,i32_w]
           rfl
          refine pure_ (i:=4) (N:=some 28) (v:=?_) (a':=?_) #[false,true,true,true,true,false,true,false,true,true,false,false,false,false] rfl rfl (any_of HT_.out (by kernel_rfl)) (fun _ _ _ h => h) (Or.inl ⟨by rfl,?_⟩) ?_ ?_
          rotate_left
          ·intro w'
           go_simp
           with_reducible rfl
          rotate_left
          ·simp only [Act.put,setIfInBounds_toArray,set_cons_zero,set_cons_succ,i64_w,i32_w]
           rfl
          refine take_ (i:=7) (N:=some 31) (v:=?_) (a':=?_) #[false,true,true,true,true,false,true,true,true,true,false,false,false,false] rfl rfl (take_ofW HT_.out HW_.out (by kernel_rfl)) (fun _ _ _ h => h) (Or.inl ⟨by rfl,?_⟩) hHeld ?_ ?_
          rotate_left
          ·rintro w' ⟨s0,s1⟩
           go_simp
           with_reducible rfl
          rotate_left
          ·simp only [Act.put,setIfInBounds_toArray,set_cons_zero,set_cons_succ,i64_w,i32_w]
           rfl
          refine pure_ (i:=10) (N:=some 34) (v:=?_) (a':=?_) #[false,true,true,true,true,false,true,true,true,true,true,false,false,false] rfl rfl (any_of HT_.out (by kernel_rfl)) (fun _ _ _ h => h) (Or.inl ⟨by rfl,?_⟩) ?_ ?_
          rotate_left
          ·intro w'
           go_simp
           with_reducible rfl
          rotate_left
          ·simp only [Act.put,setIfInBounds_toArray,set_cons_zero,set_cons_succ,i64_w,i32_w]
           rfl
          refine one_ (i:=0) (N:=some 24) #[true,true,true,true,true,false,true,true,true,true,true,false,false,false] rfl rfl (one_of HT_.out (by kernel_rfl)) (by decide) (fun K hK => ?_)
          refine Kd.R_lit_step k71 _ 71 ?hg (N:=24) ?hd (xs := ([] : List (S71))) (inner := []) (ok := fun _ => True) (okp := fun _ => True) ?hr ?hp (fun _ hk => hk) trivial (Below.refl _ _) (Nat.le_refl _) (by simp) ?_; (case hd => rfl); (case hg => rfl); (case hr => first | (go_simp; done) | (go_simp; rfl)); (case hp => exact (Reps.none _ _))
          intro v126 w34 ho35 hb hg_ hnew_
          clear hg_ hnew_
          (first | rw [← Ny125.out] at ho35 | (simp only [Int.reduceToNat] at ho35; rw [← Ny125.out] at ho35))
          have n0_ := Aside0.mk (Kd.R_elder' (rA HO0_0.out) (Kd.R_base ho35) hb)
          have n1_ := Aside0.mk (Kd.R_lower (Kd.R_new' (Kd.R_newM (M:=fun k_ => (P0_0_ k_ ∨ w.heap.size ≤ k_)) ho35 (by first | exact HK.out.1 | exact (show Kept w _ (fun k_ => P0_0_ k_) from by repeat (first | (with_reducible first | exact HK.out | apply Kept.alloc | apply Kept.drewN | apply Kept.drew | refine Kept.setCell ?_ (.inr GW121.out) _ | refine Kept.setCell ?_ (.inr GW122.out) _) | exact HK.out)).1) (fun k_ h_ => .inr h_)) (Kd.R_lt (rA HO0_0.out))) (below_size bA))
          have n2_ := Aside0.mk (blk_below (g:=gb121) (o:=.cells #[.slice (some ad124) l0_0.length co24,.int .i64 a0_1] 28 (0,0)) (kA BK121.out) hb)
          have n3_ := Aside0.mk (blk_below (g:=gb122) (o:=.cells #[.slice none 0 0,.int .i64 0] 28 (0,0)) (kA BK122.out) hb)
          have n4_ := Aside0.mk (Kd.C_below (by repeat (first | (with_reducible exact HR131.out) | (with_reducible refine Kd.C_alloc ?_ _) | (with_reducible refine Kd.C_drewN ?_ _) | (with_reducible refine Kd.C_drew ?_) | exact HR131.out)) hb)
          have n5_ := Aside0.mk (Kd.C_below (by repeat (first | (with_reducible exact HR138.out) | (with_reducible refine Kd.C_alloc ?_ _) | (with_reducible refine Kd.C_drewN ?_ _) | (with_reducible refine Kd.C_drew ?_) | exact HR138.out)) hb)
          have n6_ := Aside0.mk (Kept.below (S:=(fun k_ => P0_0_ k_)) (by repeat (first | (with_reducible first | exact HK.out | apply Kept.alloc | apply Kept.drewN | apply Kept.drew | refine Kept.setCell ?_ (.inr GW121.out) _ | refine Kept.setCell ?_ (.inr GW122.out) _) | exact HK.out)) hb)
          have n7_ := Aside0.mk (below_step bA hb)
          clear HO0_0
          clear BK121
          clear BK122
          clear HR131
          clear HR138
          clear HK
          clear HB
          have HO0_0 := n0_
          have HO127 := n1_
          have BK121 := n2_
          have BK122 := n3_
          have HR131 := n4_
          have HR138 := n5_
          have HK := n6_
          have HB := n7_
          clear n0_ n1_ n2_ n3_ n4_ n5_ n6_ n7_
          clear hb ho35
          refine hK.out _ _ ⟨(blk_cell BK121.out 0).trans rfl,(blk_cell BK121.out 1).trans rfl⟩ (fun hHeld => ?_)
          clear hK K
          refine norm_ (a':=?_) ?_ ?_
          rotate_left
          ·show Act.put _ (some 24) _ = _
           simp only [Act.put,setIfInBounds_toArray,set_cons_zero,set_cons_succ,i64_w,i32_w]
           rfl
          refine one_ (i:=5) (N:=some 29) #[true,true,true,true,true,true,true,true,true,true,true,false,false,false] rfl rfl (one_of HT_.out (by kernel_rfl)) (by decide) (fun K hK => ?_)
          refine Kd.R_append_rows_step k71 (w0 := w0) w0.heap.size (by rfl) (.tmp 24) (.tmp 28) 26 71 (.agg #[(.string ⟨#[]⟩),(.int .i64 0),(.string ⟨#[]⟩)]) 40 rfl Try.underlying26 info71 rfl (by decide) (by omega) v126 y125 y128 _ _ _ (fun k_ => (P0_0_ k_ ∨ w.heap.size ≤ k_) ∧ some k_ ≠ (.slice (some ad124) l0_0.length co24 : Value).ownBlock) (fun _ => False) rfl rfl ?aO ?aR (fun _ _ h => h) (fun _ h => h.elim) ?aF ?aB ?aS ?aL ?_
          (case aR => repeat (first | exact (by repeat (first | (with_reducible exact HR131.out) | (with_reducible refine Kd.C_alloc ?_ _) | (with_reducible refine Kd.C_drewN ?_ _) | (with_reducible refine Kd.C_drew ?_) | exact HR131.out)) | (with_reducible refine Kd.C_alloc ?_ _) | (with_reducible refine Kd.C_drewN ?_ _) | (with_reducible refine Kd.C_drew ?_)))
          (case aB => exact bA)
          (case aF => exact (fun k_ hk => ⟨(.inr (Nat.le_trans (by first | exact HK.out.1 | exact (show Kept w _ (fun k_ => P0_0_ k_) from by repeat (first | (with_reducible first | exact HK.out | apply Kept.alloc | apply Kept.drewN | apply Kept.drew | refine Kept.setCell ?_ (.inr GW121.out) _ | refine Kept.setCell ?_ (.inr GW122.out) _) | exact HK.out)).1) hk)),Kd.fresh' (Kd.R_lt (rA HO0_0.out)) k_ hk⟩))
          (case aO => exact (by (with_reducible repeat (first | apply Kd.R_alloc | apply Kd.R_drewN | apply Kd.R_drew)); exact Kd.R_mono HO127.out (fun _ hk => ⟨hk.1.1,hk.2⟩)))
          (case aS => exact (below_size bA))
          (case aL => have := LMc19.out; omega)
          intro v133 w36 ho hb hg hat
          rw [← Ny132.out] at ho
          have n0_ := Aside0.mk (Kd.R_after (ok := (fun k_ => (P0_0_ k_ ∨ w.heap.size ≤ k_))) (rA HO0_0.out) hg hat)
          have n1_ := Aside0.mk (blk_grown (g:=gb121) (o:=.cells #[.slice (some ad124) l0_0.length co24,.int .i64 a0_1] 28 (0,0)) (kA BK121.out) hg (Kd.R_ne HO127.out BK121.out (by decide)))
          have n2_ := Aside0.mk (blk_grown (g:=gb122) (o:=.cells #[.slice none 0 0,.int .i64 0] 28 (0,0)) (kA BK122.out) hg (Kd.R_ne HO127.out BK122.out (by decide)))
          have n3_ := Aside0.mk (hb)
          have n4_ := Aside0.mk (Kept.of_grown (S:=(fun k_ => P0_0_ k_)) hg (by repeat (first | (with_reducible first | exact HK.out | apply Kept.alloc | apply Kept.drewN | apply Kept.drew | refine Kept.setCell ?_ (.inr GW121.out) _ | refine Kept.setCell ?_ (.inr GW122.out) _) | exact HK.out)) (fun k_ e_ => (HO127.out.1 k_ e_).1.1))
          have n5_ := Aside0.mk ((show Kd.C k71 w36 (some ad124) y128.length y128 from by rw [Ny128.out]; exact Kd.C_take (m:=(t123 : Int).toNat) ((Kd.R_reads' (Kd.R_after (ok := (fun k_ => (P0_0_ k_ ∨ w.heap.size ≤ k_))) (rA HO0_0.out) hg hat)).2.2) KL32.out))
          have n6_ := Aside0.mk ((show Kd.C k71 w36 A33 y135.length y135 from by rw [Ny135.out,KA33.out]; exact Kd.C_drop (m:=((ji20) : Int).toNat) (c:=co24) ((Kd.R_reads' (Kd.R_after (ok := (fun k_ => (P0_0_ k_ ∨ w.heap.size ≤ k_))) (rA HO0_0.out) hg hat)).2.2) KL33.out ((Kd.R_reads' (Kd.R_after (ok := (fun k_ => (P0_0_ k_ ∨ w.heap.size ≤ k_))) (rA HO0_0.out) hg hat)).2.1)))
          have n7_ := Aside0.mk (ho)
          clear HO0_0
          clear BK121
          clear BK122
          clear HB
          clear HK
          clear HR131
          clear HR138
          clear HO127
          have HO0_0 := n0_
          have BK121 := n1_
          have BK122 := n2_
          have HB := n3_
          have HK := n4_
          have HR131 := n5_
          have HR138 := n6_
          have HO134 := n7_
          clear n0_ n1_ n2_ n3_ n4_ n5_ n6_ n7_
          clear ho hb hg hat
          refine hK.out _ _ ⟨(blk_cell BK121.out 0).trans rfl,(blk_cell BK121.out 1).trans rfl⟩ (fun hHeld => ?_)
          clear hK K
          refine norm_ (a':=?_) ?_ ?_
          rotate_left
          ·show Act.put _ (some 29) _ = _
           simp only [Act.put,setIfInBounds_toArray,set_cons_zero,set_cons_succ,i64_w,i32_w]
           rfl
          refine one_ (i:=11) (N:=some 35) #[true,true,true,true,true,true,true,true,true,true,true,true,false,false] rfl rfl (one_of HT_.out (by kernel_rfl)) (by decide) (fun K hK => ?_)
          refine Kd.R_append_rows_step k71 (w0 := w0) w0.heap.size (by rfl) (.tmp 29) (.tmp 34) 26 71 (.agg #[(.string ⟨#[]⟩),(.int .i64 0),(.string ⟨#[]⟩)]) 40 rfl Try.underlying26 info71 rfl (by decide) (by omega) v133 y132 y135 _ _ _ (fun k_ => (P0_0_ k_ ∨ w.heap.size ≤ k_) ∧ some k_ ≠ (.slice (some ad124) l0_0.length co24 : Value).ownBlock) (fun _ => False) rfl rfl ?aO ?aR (fun _ _ h => h) (fun _ h => h.elim) ?aF ?aB ?aS ?aL ?_
          (case aR => repeat (first | exact (by repeat (first | (with_reducible exact HR138.out) | (with_reducible refine Kd.C_alloc ?_ _) | (with_reducible refine Kd.C_drewN ?_ _) | (with_reducible refine Kd.C_drew ?_) | exact HR138.out)) | (with_reducible refine Kd.C_alloc ?_ _) | (with_reducible refine Kd.C_drewN ?_ _) | (with_reducible refine Kd.C_drew ?_)))
          (case aB => exact bA)
          (case aF => exact (fun k_ hk => ⟨(.inr (Nat.le_trans (by first | exact HK.out.1 | exact (show Kept w _ (fun k_ => P0_0_ k_) from by repeat (first | (with_reducible first | exact HK.out | apply Kept.alloc | apply Kept.drewN | apply Kept.drew | refine Kept.setCell ?_ (.inr GW121.out) _ | refine Kept.setCell ?_ (.inr GW122.out) _) | exact HK.out)).1) hk)),Kd.fresh' (Kd.R_lt (rA HO0_0.out)) k_ hk⟩))
          (case aO => exact (rA HO134.out))
          (case aS => exact (below_size bA))
          (case aL => have := LMc23.out; omega)
          intro v140 w37 ho hb hg hat
          rw [← Ny139.out] at ho
          have n0_ := Aside0.mk (Kd.R_after (ok := (fun k_ => (P0_0_ k_ ∨ w.heap.size ≤ k_))) (rA HO0_0.out) hg hat)
          have n1_ := Aside0.mk (blk_grown (g:=gb121) (o:=.cells #[.slice (some ad124) l0_0.length co24,.int .i64 a0_1] 28 (0,0)) (kA BK121.out) hg (Kd.R_ne HO134.out BK121.out (by decide)))
          have n2_ := Aside0.mk (blk_grown (g:=gb122) (o:=.cells #[.slice none 0 0,.int .i64 0] 28 (0,0)) (kA BK122.out) hg (Kd.R_ne HO134.out BK122.out (by decide)))
          have n3_ := Aside0.mk (hb)
          have n4_ := Aside0.mk (Kept.of_grown (S:=(fun k_ => P0_0_ k_)) hg (by repeat (first | (with_reducible first | exact HK.out | apply Kept.alloc | apply Kept.drewN | apply Kept.drew | refine Kept.setCell ?_ (.inr GW121.out) _ | refine Kept.setCell ?_ (.inr GW122.out) _) | exact HK.out)) (fun k_ e_ => (HO134.out.1 k_ e_).1))
          have n5_ := Aside0.mk ((show Kd.C k71 w37 (some ad124) y128.length y128 from by rw [Ny128.out]; exact Kd.C_take (m:=(t123 : Int).toNat) ((Kd.R_reads' (Kd.R_after (ok := (fun k_ => (P0_0_ k_ ∨ w.heap.size ≤ k_))) (rA HO0_0.out) hg hat)).2.2) KL32.out))
          have n6_ := Aside0.mk ((show Kd.C k71 w37 A33 y135.length y135 from by rw [Ny135.out,KA33.out]; exact Kd.C_drop (m:=((ji20) : Int).toNat) (c:=co24) ((Kd.R_reads' (Kd.R_after (ok := (fun k_ => (P0_0_ k_ ∨ w.heap.size ≤ k_))) (rA HO0_0.out) hg hat)).2.2) KL33.out ((Kd.R_reads' (Kd.R_after (ok := (fun k_ => (P0_0_ k_ ∨ w.heap.size ≤ k_))) (rA HO0_0.out) hg hat)).2.1)))
          have n7_ := Aside0.mk (ho)
          clear HO0_0
          clear BK121
          clear BK122
          clear HB
          clear HK
          clear HR131
          clear HR138
          clear HO134
          have HO0_0 := n0_
          have BK121 := n1_
          have BK122 := n2_
          have HB := n3_
          have HK := n4_
          have HR131 := n5_
          have HR138 := n6_
          have HO141 := n7_
          clear n0_ n1_ n2_ n3_ n4_ n5_ n6_ n7_
          clear ho hb hg hat
          obtain ⟨Ao38,co38,eo38⟩ := Kd.R_slice HO141.out
          (first | subst eo38 | (injection eo38 with f1_ f2_ f3_; have f4_ := f1_.symm; have f5_ := f3_.symm; clear f1_ f2_ f3_; subst f4_; subst f5_))
          refine hK.out _ _ ⟨(blk_cell BK121.out 0).trans rfl,(blk_cell BK121.out 1).trans rfl⟩ (fun hHeld => ?_)
          clear hK K
          refine norm_ (a':=?_) ?_ ?_
          rotate_left
          ·show Act.put _ (some 35) _ = _
           simp only [Act.put,setIfInBounds_toArray,set_cons_zero,set_cons_succ,i64_w,i32_w]
           rfl
          refine pure_ (i:=12) (N:=some 36) (v:=?_) (a':=?_) #[true,true,true,true,true,true,true,true,true,true,true,true,true,false] rfl rfl (any_of HT_.out (by kernel_rfl)) (fun _ _ _ h => h) (Or.inl ⟨by rfl,?_⟩) ?_ ?_
          rotate_left
          ·intro w'
           go_simp
           with_reducible rfl
          rotate_left
          ·simp only [Act.put,setIfInBounds_toArray,set_cons_zero,set_cons_succ,i64_w,i32_w]
           rfl
          refine last_ (i:=13) (N:=none) #[true,true,true,true,true,true,true,true,true,true,true,true,true,true] rfl rfl (one_of HT_.out (by kernel_rfl)) (by decide) (fun K hK => ?_)
          have hs39 : w37.cell? ⟨gb121,0,none⟩ = some (.slice (some ad124) l0_0.length co24) := (blk_cell BK121.out 0).trans rfl
          have hfs39 := blk_frozen BK121.out 0
          have hns39_1 := NB122_121.out
          have hms39_1 := NB121_122.out
          refine skip_ (w1 := ?_) (by rfl) rfl ?_ ?_
          rotate_left
          ·go_simp
           rfl
          refine hK.out _ _ ?_
          clear hK K
          refine done_ (done_of HT_.out (by kernel_rfl)) ?_
          have hcz40_0 : w37.cell? ⟨gb121,0,none⟩ = some (.slice (some ad124) l0_0.length co24) := (blk_cell BK121.out 0).trans rfl
          have hcz40_1 : w37.cell? ⟨gb121,1,none⟩ = some (.int .i64 a0_1) := (blk_cell BK121.out 1).trans rfl
          have hfz40_0 := blk_frozen BK121.out 0
          have hfz40_1 := blk_frozen BK121.out 1
          have hcz41_0 : w37.cell? ⟨gb122,0,none⟩ = some (.slice none 0 0) := (blk_cell BK122.out 0).trans rfl
          have hcz41_1 : w37.cell? ⟨gb122,1,none⟩ = some (.int .i64 0) := (blk_cell BK122.out 1).trans rfl
          have hfz41_0 := blk_frozen BK122.out 0
          have hfz41_1 := blk_frozen BK122.out 1
          try go_wp2
          refine bodyPost_ret (results_ct rfl _ _ gb122 28 #[.slice Ao38 y139.length co38,.int .i64 a0_1] (0,0) _ rfl (by (with_reducible repeat (first | refine blk_drewN ?_ _ | refine blk_drew ?_ | refine blk_alloc ?_ _)); refine blk_put (cs := #[.slice Ao38 y139.length co38,.int .i64 0]) ?_ 1 _ rfl; (with_reducible repeat (first | refine blk_drewN ?_ _ | refine blk_drew ?_ | refine blk_alloc ?_ _)); refine blk_put (cs := #[.slice none 0 0,.int .i64 0]) ?_ 0 _ rfl; (with_reducible repeat (first | refine blk_drewN ?_ _ | refine blk_drew ?_ | refine blk_alloc ?_ _)); refine blk_far ?_ NB122_121.out _; (with_reducible repeat (first | refine blk_drewN ?_ _ | refine blk_drew ?_ | refine blk_alloc ?_ _)); exact BK122.out) Try.underlying28 rfl (by kernel_rfl)) rfl ?_
          exact ⟨_,by first | rfl | (simp only [i64_w,i32_w] <;> rfl) | (simp [errW_none,errW_some] <;> rfl) | (simp only [← hji20]; first | rfl | (simp [errW_none,errW_some] <;> rfl)) | (simp [*,errW_none,errW_some] <;> rfl),by (with_reducible repeat (first | apply Kd.R_alloc | apply Kd.R_drewN | apply Kd.R_drew)); exact Kd.R_mono (Kd.R_far (p:=⟨gb122,1,none⟩) (Kd.R_far (p:=⟨gb122,0,none⟩) (Kd.R_far (p:=⟨gb121,0,none⟩) (Kd.R_types (Kd.R_types HO141.out BK121.out (by decide)) BK122.out (by decide)) (fun _ hk => hk.1.2) (.slice Ao38 y139.length co38)) (fun _ hk => hk.2) (.slice Ao38 y139.length co38)) (fun _ hk => hk.2) (.int .i64 a0_1)) (fun _ hk => hk.1.1.1),bA,by repeat (first | (with_reducible first | exact HK.out | apply Kept.alloc | apply Kept.drewN | apply Kept.drew | refine Kept.setCell ?_ (.inr GW121.out) _ | refine Kept.setCell ?_ (.inr GW122.out) _) | exact HK.out)⟩
         ·rw [if_neg c23] at H
          exact absurd H (by simp)
        ·rw [if_neg c22] at H
         exact absurd H (by simp)
       ·rw [if_neg c21] at H
        exact absurd H (by simp)
      ·rw [if_neg c19] at H
       exact absurd H (by simp)
     ·rw [if_neg c18] at H
      exact absurd H (by simp)
    ·rw [if_neg c16] at H
     have c16b0 : (((rd_T71 l0_0 t123).f1) == a2) = false := beq_eq_false_iff_ne.mpr c16
     have c16b1 : (((rd_T71 l0_0 t123).f1) != a2) = true := bne_iff_ne.mpr c16
     simp only [Option.some.injEq,Prod.mk.injEq] at H
     obtain ⟨rfl,rfl,rfl⟩ := H
     obtain ⟨Ao42,co42,eo42⟩ := Kd.R_slice HO0_0.out
     subst eo42
     go_enter Try.func25,Try.ntmps25
     go_wp2_with (first | ((with_reducible refine gate_dst (N:=3) rfl ?_); refine box_event ?hg (N:=3) ?hd (cs := #[.slice Ao42 l0_0.length co42,.int .i64 a0_1]) (t:=28) ?hr ?_; (case hd => rfl); (case hg => rfl); (case hr => first | (go_simp; done) | (go_simp; rfl)); intro gb121 hg w43 hbox hb; have n0_ := Aside0.mk (Kd.R_below (rA HO0_0.out) hb); have n1_ := Aside0.mk (Kept.below (S:=(fun k_ => P0_0_ k_)) (by repeat (first | (with_reducible first | exact HK.out | apply Kept.alloc | apply Kept.drewN | apply Kept.drew) | exact HK.out)) hb); have n2_ := Aside0.mk (below_step bA hb); have n3_ := Aside0.mk (hbox); have n4_ := Aside0.mk ((by rw [hg]; exact (by first | exact HK.out.1 | exact (show Kept w _ (fun k_ => P0_0_ k_) from by repeat (first | (with_reducible first | exact HK.out | apply Kept.alloc | apply Kept.drewN | apply Kept.drew) | exact HK.out)).1) : w.heap.size ≤ gb121)); have n5_ := Aside0.mk ((by rw [hg]; exact (below_size bA) : w0.heap.size ≤ gb121)); clear HO0_0; clear HK; clear HB; have HO0_0 := n0_; have HK := n1_; have HB := n2_; have BK121 := n3_; have GW121 := n4_; have GE121 := n5_; clear n0_ n1_ n2_ n3_ n4_ n5_; clear hb hbox hg) | ((with_reducible refine gate_dst (N:=6) rfl ?_); refine box_event ?hg (N:=6) ?hd (cs := #[.slice none 0 0,.int .i64 0]) (t:=28) ?hr ?_; (case hd => rfl); (case hg => rfl); (case hr => first | (go_simp; done) | (go_simp; rfl)); intro gb122 hg w44 hbox hb; have n0_ := Aside0.mk (Kd.R_below (rA HO0_0.out) hb); have n1_ := Aside0.mk (blk_below (g:=gb121) (o:=.cells #[.slice Ao42 l0_0.length co42,.int .i64 a0_1] 28 (0,0)) (kA BK121.out) hb); have n2_ := Aside0.mk (Kept.below (S:=(fun k_ => P0_0_ k_)) (by repeat (first | (with_reducible first | exact HK.out | apply Kept.alloc | apply Kept.drewN | apply Kept.drew | refine Kept.setCell ?_ (.inr GW121.out) _) | exact HK.out)) hb); have n3_ := Aside0.mk (below_step bA hb); have n4_ := Aside0.mk (hbox); have n5_ := Aside0.mk ((by rw [hg]; exact (by first | exact HK.out.1 | exact (show Kept w _ (fun k_ => P0_0_ k_) from by repeat (first | (with_reducible first | exact HK.out | apply Kept.alloc | apply Kept.drewN | apply Kept.drew | refine Kept.setCell ?_ (.inr GW121.out) _) | exact HK.out)).1) : w.heap.size ≤ gb122)); have n6_ := Aside0.mk ((by rw [hg]; exact (below_size bA) : w0.heap.size ≤ gb122)); have n7_ := Aside0.mk ((by rw [hg]; exact Nat.ne_of_lt (blk_lt (g:=gb121) (o:=.cells #[.slice Ao42 l0_0.length co42,.int .i64 a0_1] 28 (0,0)) (kA BK121.out)) : gb121 ≠ gb122)); have n8_ := Aside0.mk ((by rw [hg]; exact Nat.ne_of_gt (blk_lt (g:=gb121) (o:=.cells #[.slice Ao42 l0_0.length co42,.int .i64 a0_1] 28 (0,0)) (kA BK121.out)) : gb122 ≠ gb121)); clear HO0_0; clear BK121; clear HK; clear HB; have HO0_0 := n0_; have BK121 := n1_; have HK := n2_; have HB := n3_; have BK122 := n4_; have GW122 := n5_; have GE122 := n6_; have NB121_122 := n7_; have NB122_121 := n8_; clear n0_ n1_ n2_ n3_ n4_ n5_ n6_ n7_ n8_; clear hb hbox hg; have hnb45 := NB121_122.out; have hnc45 := NB122_121.out; have hcz46_0 : w44.cell? ⟨gb121,0,none⟩ = some (.slice Ao42 l0_0.length co42) := (blk_cell BK121.out 0).trans rfl; have hcz46_1 : w44.cell? ⟨gb121,1,none⟩ = some (.int .i64 a0_1) := (blk_cell BK121.out 1).trans rfl; have hfz46_0 := blk_frozen BK121.out 0; have hfz46_1 := blk_frozen BK121.out 1) | ((with_reducible refine gate_callee (f:=53) rfl ?_); refine goesL_ (some 11) rfl rfl Try.func53 (by kernel_rfl) rfl #[.agg #[.slice Ao42 l0_0.length co42,.int .i64 a0_1],.string a1] rfl mA ?_; (with_reducible refine (spec_l01Find.calls k _ _ l0_0 a0_1 a1 t123 _ ?side1 ?side2 A4.out).mono ?_); (case side1 => repeat (first | exact (Kd.R_reads' HO0_0.out).2.2 | (with_reducible refine Kd.C_alloc ?_ _) | (with_reducible refine Kd.C_drewN ?_ _) | (with_reducible refine Kd.C_drew ?_))); (case side2 => exact (Kd.R_reads' HO0_0.out).2.1); rintro e w47 ⟨rfl,hb⟩; refine ⟨_,rfl,?_⟩; have n0_ := Aside0.mk (Kd.R_below (rA HO0_0.out) hb); have n1_ := Aside0.mk (blk_below (g:=gb121) (o:=.cells #[.slice Ao42 l0_0.length co42,.int .i64 a0_1] 28 (0,0)) (kA BK121.out) hb); have n2_ := Aside0.mk (blk_below (g:=gb122) (o:=.cells #[.slice none 0 0,.int .i64 0] 28 (0,0)) (kA BK122.out) hb); have n3_ := Aside0.mk (Kept.below (S:=(fun k_ => P0_0_ k_)) (by repeat (first | (with_reducible first | exact HK.out | apply Kept.alloc | apply Kept.drewN | apply Kept.drew | refine Kept.setCell ?_ (.inr GW121.out) _ | refine Kept.setCell ?_ (.inr GW122.out) _) | exact HK.out)) hb); have n4_ := Aside0.mk (below_step bA hb); clear HO0_0; clear BK121; clear BK122; clear HK; clear HB; have HO0_0 := n0_; have BK121 := n1_; have BK122 := n2_; have HK := n3_; have HB := n4_; clear n0_ n1_ n2_ n3_ n4_; (try clear hb); (try clear hb2); (try clear hk); (try clear hi); have hcz48_0 : w47.cell? ⟨gb121,0,none⟩ = some (.slice Ao42 l0_0.length co42) := (blk_cell BK121.out 0).trans rfl; have hcz48_1 : w47.cell? ⟨gb121,1,none⟩ = some (.int .i64 a0_1) := (blk_cell BK121.out 1).trans rfl; have hfz48_0 := blk_frozen BK121.out 0; have hfz48_1 := blk_frozen BK121.out 1; have p124 : 0 ≤ (t123 : Int) := of_decide_eq_true (by first | (with_reducible assumption) | assumption); have q124 : t123 < (l0_0.length : Int) := of_decide_eq_true (by first | (with_reducible assumption) | assumption); obtain ⟨ad124,e124,hx124_0,hx124_1,hx124_2⟩ := at_T71 (Kd.R_reads' HO0_0.out).2.2 t123 p124 q124; cases e124; replace p124 := eq_true p124; replace q124 := eq_true q124; have hcz49_0 : w47.cell? ⟨gb122,0,none⟩ = some (.slice none 0 0) := (blk_cell BK122.out 0).trans rfl; have hcz49_1 : w47.cell? ⟨gb122,1,none⟩ = some (.int .i64 0) := (blk_cell BK122.out 1).trans rfl; have hfz49_0 := blk_frozen BK122.out 0; have hfz49_1 := blk_frozen BK122.out 1))
     refine bodyPost_ret (results_ct rfl _ _ gb122 28 #[.slice (some ad124) l0_0.length co42,.int .i64 a0_1] (0,0) _ rfl (by (with_reducible repeat (first | refine blk_drewN ?_ _ | refine blk_drew ?_ | refine blk_alloc ?_ _)); refine blk_put (cs := #[.slice (some ad124) l0_0.length co42,.int .i64 0]) ?_ 1 _ rfl; (with_reducible repeat (first | refine blk_drewN ?_ _ | refine blk_drew ?_ | refine blk_alloc ?_ _)); refine blk_put (cs := #[.slice none 0 0,.int .i64 0]) ?_ 0 _ rfl; (with_reducible repeat (first | refine blk_drewN ?_ _ | refine blk_drew ?_ | refine blk_alloc ?_ _)); exact BK122.out) Try.underlying28 rfl (by kernel_rfl)) rfl ?_
     exact ⟨_,by first | rfl | (simp only [i64_w,i32_w] <;> rfl) | (simp [errW_none,errW_some] <;> rfl) | (simp [*,errW_none,errW_some] <;> rfl),by (with_reducible repeat (first | apply Kd.R_alloc | apply Kd.R_drewN | apply Kd.R_drew)); exact Kd.R_mono (Kd.R_far (p:=⟨gb122,1,none⟩) (Kd.R_far (p:=⟨gb122,0,none⟩) (Kd.R_types HO0_0.out BK122.out (by decide)) (fun _ hk => hk.2) (.slice (some ad124) l0_0.length co42)) (fun _ hk => hk.2) (.int .i64 a0_1)) (fun _ hk => hk.1),bA,by repeat (first | (with_reducible first | exact HK.out | apply Kept.alloc | apply Kept.drewN | apply Kept.drew | refine Kept.setCell ?_ (.inr GW121.out) _ | refine Kept.setCell ?_ (.inr GW122.out) _) | exact HK.out)⟩
   ·rw [if_neg c15] at H
    exact absurd H (by simp)
  ·rw [if_neg c14] at H
   exact absurd H (by simp)

/-! ### spec_l01Own: function 26 -/
def spec_l01Own.f (l0_0 : List (S71)) (a0_1 : Int) : Option ((List (S71)) × Int) := (some (([] : List (S71)) : List (S71))).bind fun y144 => (if y144.length + l0_0.length < 3518437208883 then (some ((y144 ++ l0_0),a0_1)) else (none))
set_option maxHeartbeats 8000000 in
set_option maxRecDepth 100000 in
theorem spec_l01Own.calls (A0_0 : Option Addr) (c0_0 : Nat) (l0_0 : List (S71)) (a0_1 : Int) (r1 : List (S71)) (r2 : Int) (w : World) (hr0_0 : Kd.C k71 w A0_0 l0_0.length l0_0) (hc0_0 : l0_0.length ≤ c0_0) (h : spec_l01Own.f l0_0 a0_1 = some (r1,r2)) :
  Calls Try.prog 26 #[.agg #[.slice A0_0 l0_0.length c0_0,.int .i64 a0_1]] w fun e w' => ∃ v0_ : Value,e = .returned (.agg #[v0_,.int .i64 r2]) ∧ Kd.R k71 71 w' w.heap.size (fun _ => True) v0_ r1 ∧ Below w.heap.size w w' := by
 have hu28 := Try.underlying28
 have HR0_0 := Aside0.mk hr0_0
 have HC0_0 := Aside0.mk hc0_0
 clear hr0_0 hc0_0
 have HB := Aside0.mk (Below.refl w.heap.size w)
 have H : ((some (([] : List (S71)) : List (S71))).bind fun y144 => (if y144.length + l0_0.length < 3518437208883 then (some ((y144 ++ l0_0),a0_1)) else (none))) = some (r1,r2) := h
 clear h
 obtain ⟨y144,hy144⟩ : ∃ y_ : List (S71),y_ = (([] : List (S71))) := ⟨_,rfl⟩
 replace H : (if y144.length + l0_0.length < 3518437208883 then (some ((y144 ++ l0_0),a0_1)) else (none)) = some (r1,r2) := by first | (rw [hy144]; with_reducible exact H) | (have H2_ := (Option.bind_some _ _).symm.trans H; rw [hy144]; with_reducible exact H2_) | (have H2_ := (Option.bind_some _ _).symm.trans H; with_reducible exact H2_) | with_reducible exact H | (rw [hy144]; exact H) | exact H
 have Ny144 := Aside0.mk hy144
 clear hy144
 by_cases c2 : y144.length + l0_0.length < 3518437208883
 ·rw [if_pos c2] at H
  have LMc2 := Aside0.mk c2
  clear c2
  obtain ⟨y147,hy147⟩ : ∃ y_ : List (S71),y_ = (y144 ++ l0_0) := ⟨_,rfl⟩
  replace H : (some (y147,a0_1)) = some (r1,r2) := by first | (rw [hy147]; with_reducible exact H) | (have H2_ := (Option.bind_some _ _).symm.trans H; rw [hy147]; with_reducible exact H2_) | (have H2_ := (Option.bind_some _ _).symm.trans H; with_reducible exact H2_) | with_reducible exact H | (rw [hy147]; exact H) | exact H
  have Ny147 := Aside0.mk hy147
  clear hy147
  simp only [Option.some.injEq,Prod.mk.injEq] at H
  obtain ⟨rfl,rfl⟩ := H
  go_enter Try.func26,Try.ntmps26
  go_wp2_with (first | ((with_reducible refine gate_dst (N:=1) rfl ?_); refine box_event ?hg (N:=1) ?hd (cs := #[.slice A0_0 l0_0.length c0_0,.int .i64 a0_1]) (t:=28) ?hr ?_; (case hd => rfl); (case hg => rfl); (case hr => first | (go_simp; done) | (go_simp; rfl)); intro gb142 hg w3 hbox hb; have n0_ := Aside0.mk (below_step bA hb); have n1_ := Aside0.mk (hbox); have n2_ := Aside0.mk ((by rw [hg]; exact (below_size bA) : w.heap.size ≤ gb142)); have n3_ := Aside0.mk ((by rw [hg]; exact (below_size bA) : w.heap.size ≤ gb142)); clear HB; have HB := n0_; have BK142 := n1_; have GW142 := n2_; have GE142 := n3_; clear n0_ n1_ n2_ n3_; clear hb hbox hg) | ((with_reducible refine gate_dst (N:=2) rfl ?_); refine box_event ?hg (N:=2) ?hd (cs := #[.slice none 0 0,.int .i64 0]) (t:=28) ?hr ?_; (case hd => rfl); (case hg => rfl); (case hr => first | (go_simp; done) | (go_simp; rfl)); intro gb143 hg w4 hbox hb; have n0_ := Aside0.mk (blk_below (g:=gb142) (o:=.cells #[.slice A0_0 l0_0.length c0_0,.int .i64 a0_1] 28 (0,0)) (kA BK142.out) hb); have n1_ := Aside0.mk (below_step bA hb); have n2_ := Aside0.mk (hbox); have n3_ := Aside0.mk ((by rw [hg]; exact (below_size bA) : w.heap.size ≤ gb143)); have n4_ := Aside0.mk ((by rw [hg]; exact (below_size bA) : w.heap.size ≤ gb143)); have n5_ := Aside0.mk ((by rw [hg]; exact Nat.ne_of_lt (blk_lt (g:=gb142) (o:=.cells #[.slice A0_0 l0_0.length c0_0,.int .i64 a0_1] 28 (0,0)) (kA BK142.out)) : gb142 ≠ gb143)); have n6_ := Aside0.mk ((by rw [hg]; exact Nat.ne_of_gt (blk_lt (g:=gb142) (o:=.cells #[.slice A0_0 l0_0.length c0_0,.int .i64 a0_1] 28 (0,0)) (kA BK142.out)) : gb143 ≠ gb142)); clear BK142; clear HB; have BK142 := n0_; have HB := n1_; have BK143 := n2_; have GW143 := n3_; have GE143 := n4_; have NB142_143 := n5_; have NB143_142 := n6_; clear n0_ n1_ n2_ n3_ n4_ n5_ n6_; clear hb hbox hg) | ((with_reducible refine gate_dst (N:=3) rfl ?_); refine Kd.R_lit k71 _ 71 ?hg (N:=3) ?hd (xs := ([] : List (S71))) (inner := []) (ok := fun _ => True) (okp := fun _ => True) ?hr ?hp (fun _ hk => hk) trivial (Below.refl _ _) (Nat.le_refl _) (by simp) ?_; (case hd => rfl); (case hg => rfl); (case hr => first | (go_simp; done) | (go_simp; rfl)); (case hp => exact (Reps.none _ _)); intro v145 w5 ho6 hb hg_ hnew_; clear hg_ hnew_; (first | rw [← Ny144.out] at ho6 | (simp only [Int.reduceToNat] at ho6; rw [← Ny144.out] at ho6)); have n0_ := Aside0.mk (Kd.R_lower ho6 (below_size bA)); have n1_ := Aside0.mk (blk_below (g:=gb142) (o:=.cells #[.slice A0_0 l0_0.length c0_0,.int .i64 a0_1] 28 (0,0)) (kA BK142.out) hb); have n2_ := Aside0.mk (blk_below (g:=gb143) (o:=.cells #[.slice none 0 0,.int .i64 0] 28 (0,0)) (kA BK143.out) hb); have n3_ := Aside0.mk (below_step bA hb); clear BK142; clear BK143; clear HB; have HO146 := n0_; have BK142 := n1_; have BK143 := n2_; have HB := n3_; clear n0_ n1_ n2_ n3_; clear hb ho6; have hnb7 := NB142_143.out; have hnc7 := NB143_142.out; have hcz8_0 : w5.cell? ⟨gb142,0,none⟩ = some (.slice A0_0 l0_0.length c0_0) := (blk_cell BK142.out 0).trans rfl; have hcz8_1 : w5.cell? ⟨gb142,1,none⟩ = some (.int .i64 a0_1) := (blk_cell BK142.out 1).trans rfl; have hfz8_0 := blk_frozen BK142.out 0; have hfz8_1 := blk_frozen BK142.out 1) | ((with_reducible refine gate_builtin (b:=.append) (xs := #[.tmp 3,.tmp 5]) rfl ?_); at_builtin; refine Kd.R_append_rows k71 (w0 := w) w.heap.size rfl (.tmp 3) (.tmp 5) 26 71 (.agg #[(.string ⟨#[]⟩),(.int .i64 0),(.string ⟨#[]⟩)]) 40 rfl Try.underlying26 info71 rfl (by decide) (by omega) v145 y144 l0_0 _ _ _ (fun _ => True) (fun _ => False) rfl rfl ?aO ?aR (fun _ _ h => h) (fun _ h => h.elim) ?aF ?aB ?aS ?aL ?_; (case aR => repeat (first | exact (Kd.C_below HR0_0.out HB.out) | (with_reducible refine Kd.C_alloc ?_ _) | (with_reducible refine Kd.C_drewN ?_ _) | (with_reducible refine Kd.C_drew ?_))); (case aB => exact bA); (case aF => exact (fun _ _ => trivial)); (case aO => exact (rA HO146.out)); (case aS => exact (below_size bA)); (case aL => have := LMc2.out; omega); intro v148 w9 ho hb hg hat; rw [← Ny147.out] at ho; have n0_ := Aside0.mk (blk_grown (g:=gb142) (o:=.cells #[.slice A0_0 l0_0.length c0_0,.int .i64 a0_1] 28 (0,0)) (kA BK142.out) hg (Kd.R_ne HO146.out BK142.out (by decide))); have n1_ := Aside0.mk (blk_grown (g:=gb143) (o:=.cells #[.slice none 0 0,.int .i64 0] 28 (0,0)) (kA BK143.out) hg (Kd.R_ne HO146.out BK143.out (by decide))); have n2_ := Aside0.mk (hb); have n3_ := Aside0.mk (ho); clear BK142; clear BK143; clear HB; clear HO146; have BK142 := n0_; have BK143 := n1_; have HB := n2_; have HO149 := n3_; clear n0_ n1_ n2_ n3_; clear ho hb hg hat; obtain ⟨Ao10,co10,eo10⟩ := Kd.R_slice HO149.out; subst eo10; have hcz11_0 : w9.cell? ⟨gb142,0,none⟩ = some (.slice A0_0 l0_0.length c0_0) := (blk_cell BK142.out 0).trans rfl; have hcz11_1 : w9.cell? ⟨gb142,1,none⟩ = some (.int .i64 a0_1) := (blk_cell BK142.out 1).trans rfl; have hfz11_0 := blk_frozen BK142.out 0; have hfz11_1 := blk_frozen BK142.out 1; have hcz12_0 : w9.cell? ⟨gb143,0,none⟩ = some (.slice none 0 0) := (blk_cell BK143.out 0).trans rfl; have hcz12_1 : w9.cell? ⟨gb143,1,none⟩ = some (.int .i64 0) := (blk_cell BK143.out 1).trans rfl; have hfz12_0 := blk_frozen BK143.out 0; have hfz12_1 := blk_frozen BK143.out 1))
  refine bodyPost_ret (results_cell_row rfl _ _ gb143 28 #[.slice Ao10 y147.length co10,.int .i64 a0_1] (0,0) _ rfl (by (with_reducible repeat (first | refine blk_drewN ?_ _ | refine blk_drew ?_ | refine blk_alloc ?_ _)); refine blk_put (cs := #[.slice Ao10 y147.length co10,.int .i64 0]) ?_ 1 _ rfl; (with_reducible repeat (first | refine blk_drewN ?_ _ | refine blk_drew ?_ | refine blk_alloc ?_ _)); refine blk_put (cs := #[.slice none 0 0,.int .i64 0]) ?_ 0 _ rfl; (with_reducible repeat (first | refine blk_drewN ?_ _ | refine blk_drew ?_ | refine blk_alloc ?_ _)); refine blk_far ?_ NB143_142.out _; (with_reducible repeat (first | refine blk_drewN ?_ _ | refine blk_drew ?_ | refine blk_alloc ?_ _)); exact BK143.out) Try.underlying28 rfl (by kernel_rfl)) rfl ?_
  exact ⟨_,by first | rfl | (simp [errW_none,errW_some] <;> rfl) | (simp [*,errW_none,errW_some] <;> rfl),by (with_reducible repeat (first | apply Kd.R_alloc | apply Kd.R_drewN | apply Kd.R_drew)); exact Kd.R_mono (Kd.R_far (p:=⟨gb143,1,none⟩) (Kd.R_far (p:=⟨gb143,0,none⟩) (Kd.R_far (p:=⟨gb142,0,none⟩) (Kd.R_types (Kd.R_types HO149.out BK142.out (by decide)) BK143.out (by decide)) (fun _ hk => hk.1.2) (.slice Ao10 y147.length co10)) (fun _ hk => hk.2) (.slice Ao10 y147.length co10)) (fun _ hk => hk.2) (.int .i64 a0_1)) (fun _ hk => trivial),bA⟩
 ·rw [if_neg c2] at H
  exact absurd H (by simp)

/-! ### spec_DeleteVersion: function 8 -/
def spec_DeleteVersion.f (k : Nat) (l0_0 : List (S71)) (a0_1 : Int) (a1 : ByteArray) (a2 : Int) : Option ((List (S71)) × Int × Int) := if (a1.size : Int) > 65536 then (some (([] : List (S71)),0,2)) else ((spec_l01Ask.f k l0_0 a0_1 a1).bind fun t152 => (if t152 = 0 then ((spec_l01Delete.f k l0_0 a0_1 a1 a2).bind fun bt153 => ((spec_l01Own.f bt153.1 bt153.2.1).bind fun bt159 => (some (bt159.1,bt159.2,bt153.2.2)))) else (some (([] : List (S71)),0,t152))))
theorem spec_DeleteVersion.mono : ∀ a0 a1 a2 a3 k,LeO (spec_DeleteVersion.f k a0 a1 a2 a3) (spec_DeleteVersion.f (k + 1) a0 a1 a2 a3) := by
 intro a0 a1 a2 a3 k
 unfold spec_DeleteVersion.f
 repeat' first
   | (with_reducible exact spec_l01Ask.mono _ _ _ _)
   | (with_reducible exact spec_l01Delete.mono _ _ _ _ _)
   | (with_reducible exact LeO.refl _)
   | (with_reducible exact LeO.none _)
   | (with_reducible refine LeO.ite ?_ ?_)
   | (with_reducible refine LeO.bind ?_ (fun _ => ?_))
   | exact spec_l01Ask.mono _ _ _ _
   | exact spec_l01Delete.mono _ _ _ _ _
   | exact LeO.none _
   | refine LeO.ite ?_ ?_
   | refine LeO.bind ?_ (fun _ => ?_)
set_option maxHeartbeats 8000000 in
set_option maxRecDepth 100000 in
theorem spec_DeleteVersion.calls (k : Nat) (P0_0_ : Nat → Prop) (u9000_ : Value) (l0_0 : List (S71)) (a0_1 : Int) (a1 : ByteArray) (a2 : Int) (r1 : List (S71)) (r2 : Int) (r3 : Int) (w0 w : World) (hB : Below w0.heap.size w0 w) (ho0_0 : Kd.R k71 71 w w0.heap.size P0_0_ u9000_ l0_0) (h : spec_DeleteVersion.f k l0_0 a0_1 a1 a2 = some (r1,r2,r3)) :
  Calls Try.prog 8 #[.agg #[u9000_,.int .i64 a0_1],.string a1,.int .i64 a2] w fun e w' => ∃ v0_ : Value,e = .returned (.tuple #[.agg #[v0_,.int .i64 r2],.int .i64 r3]) ∧ Kd.R k71 71 w' w0.heap.size (fun k_ => (P0_0_ k_ ∨ w.heap.size ≤ k_)) v0_ r1 ∧ Below w0.heap.size w0 w' ∧ Kept w w' (fun k_ => P0_0_ k_) := by
 have hu28 := Try.underlying28
 have HO0_0 := Aside0.mk (show Kd.R k71 71 w w0.heap.size (fun k_ => (P0_0_ k_ ∨ w.heap.size ≤ k_)) u9000_ l0_0 from Kd.R_mono ho0_0 (fun k_ hk => (.inl hk)))
 have HK := Aside0.mk (Kept.refl w (fun k_ => P0_0_ k_))
 have HW0 := Aside0.mk hB.size
 have HB := Aside0.mk hB
 clear hB
 have H : (if (a1.size : Int) > 65536 then (some (([] : List (S71)),0,2)) else ((spec_l01Ask.f k l0_0 a0_1 a1).bind fun t152 => (if t152 = 0 then ((spec_l01Delete.f k l0_0 a0_1 a1 a2).bind fun bt153 => ((spec_l01Own.f bt153.1 bt153.2.1).bind fun bt159 => (some (bt159.1,bt159.2,bt153.2.2)))) else (some (([] : List (S71)),0,t152))))) = some (r1,r2,r3) := h
 clear h
 by_cases c4 : (a1.size : Int) > 65536
 ·rw [if_pos c4] at H
  have c4b0 : decide (65536 < (a1.size : Int)) = true := decide_eq_true c4
  have c4b1 : decide (65536 < a1.size) = true := decide_eq_true (by omega)
  clear c4
  simp only [Option.some.injEq,Prod.mk.injEq] at H
  obtain ⟨rfl,rfl,rfl⟩ := H
  obtain ⟨Ao5,co5,eo5⟩ := Kd.R_slice HO0_0.out
  subst eo5
  go_enter Try.func8,Try.ntmps8
  go_wp2_with (first | ((with_reducible refine gate_dst (N:=3) rfl ?_); refine box_event ?hg (N:=3) ?hd (cs := #[.slice Ao5 l0_0.length co5,.int .i64 a0_1]) (t:=28) ?hr ?_; (case hd => rfl); (case hg => rfl); (case hr => first | (go_simp; done) | (go_simp; rfl)); intro gb150 hg w6 hbox hb; have n0_ := Aside0.mk (Kd.R_below (rA HO0_0.out) hb); have n1_ := Aside0.mk (Kept.below (S:=(fun k_ => P0_0_ k_)) (by repeat (first | (with_reducible first | exact HK.out | apply Kept.alloc | apply Kept.drewN | apply Kept.drew) | exact HK.out)) hb); have n2_ := Aside0.mk (below_step bA hb); have n3_ := Aside0.mk (hbox); have n4_ := Aside0.mk ((by rw [hg]; exact (by first | exact HK.out.1 | exact (show Kept w _ (fun k_ => P0_0_ k_) from by repeat (first | (with_reducible first | exact HK.out | apply Kept.alloc | apply Kept.drewN | apply Kept.drew) | exact HK.out)).1) : w.heap.size ≤ gb150)); have n5_ := Aside0.mk ((by rw [hg]; exact (below_size bA) : w0.heap.size ≤ gb150)); clear HO0_0; clear HK; clear HB; have HO0_0 := n0_; have HK := n1_; have HB := n2_; have BK150 := n3_; have GW150 := n4_; have GE150 := n5_; clear n0_ n1_ n2_ n3_ n4_ n5_; clear hb hbox hg) | ((with_reducible refine gate_dst (N:=6) rfl ?_); refine box_event ?hg (N:=6) ?hd (cs := #[.slice none 0 0,.int .i64 0]) (t:=28) ?hr ?_; (case hd => rfl); (case hg => rfl); (case hr => first | (go_simp; done) | (go_simp; rfl)); intro gb151 hg w7 hbox hb; have n0_ := Aside0.mk (Kd.R_below (rA HO0_0.out) hb); have n1_ := Aside0.mk (blk_below (g:=gb150) (o:=.cells #[.slice Ao5 l0_0.length co5,.int .i64 a0_1] 28 (0,0)) (kA BK150.out) hb); have n2_ := Aside0.mk (Kept.below (S:=(fun k_ => P0_0_ k_)) (by repeat (first | (with_reducible first | exact HK.out | apply Kept.alloc | apply Kept.drewN | apply Kept.drew | refine Kept.setCell ?_ (.inr GW150.out) _) | exact HK.out)) hb); have n3_ := Aside0.mk (below_step bA hb); have n4_ := Aside0.mk (hbox); have n5_ := Aside0.mk ((by rw [hg]; exact (by first | exact HK.out.1 | exact (show Kept w _ (fun k_ => P0_0_ k_) from by repeat (first | (with_reducible first | exact HK.out | apply Kept.alloc | apply Kept.drewN | apply Kept.drew | refine Kept.setCell ?_ (.inr GW150.out) _) | exact HK.out)).1) : w.heap.size ≤ gb151)); have n6_ := Aside0.mk ((by rw [hg]; exact (below_size bA) : w0.heap.size ≤ gb151)); have n7_ := Aside0.mk ((by rw [hg]; exact Nat.ne_of_lt (blk_lt (g:=gb150) (o:=.cells #[.slice Ao5 l0_0.length co5,.int .i64 a0_1] 28 (0,0)) (kA BK150.out)) : gb150 ≠ gb151)); have n8_ := Aside0.mk ((by rw [hg]; exact Nat.ne_of_gt (blk_lt (g:=gb150) (o:=.cells #[.slice Ao5 l0_0.length co5,.int .i64 a0_1] 28 (0,0)) (kA BK150.out)) : gb151 ≠ gb150)); clear HO0_0; clear BK150; clear HK; clear HB; have HO0_0 := n0_; have BK150 := n1_; have HK := n2_; have HB := n3_; have BK151 := n4_; have GW151 := n5_; have GE151 := n6_; have NB150_151 := n7_; have NB151_150 := n8_; clear n0_ n1_ n2_ n3_ n4_ n5_ n6_ n7_ n8_; clear hb hbox hg; have hnb8 := NB151_150.out; have hnc8 := NB150_151.out; have hcz9_0 : w7.cell? ⟨gb151,0,none⟩ = some (.slice none 0 0) := (blk_cell BK151.out 0).trans rfl; have hcz9_1 : w7.cell? ⟨gb151,1,none⟩ = some (.int .i64 0) := (blk_cell BK151.out 1).trans rfl; have hfz9_0 := blk_frozen BK151.out 0; have hfz9_1 := blk_frozen BK151.out 1))
  refine bodyPost_ret (results_ct rfl _ _ gb151 28 #[.slice none 0 0,.int .i64 0] (0,0) _ rfl (by (with_reducible repeat (first | refine blk_drewN ?_ _ | refine blk_drew ?_ | refine blk_alloc ?_ _)); refine blk_put (cs := #[.slice none 0 0,.int .i64 0]) ?_ 1 _ rfl; (with_reducible repeat (first | refine blk_drewN ?_ _ | refine blk_drew ?_ | refine blk_alloc ?_ _)); refine blk_put (cs := #[.slice none 0 0,.int .i64 0]) ?_ 0 _ rfl; (with_reducible repeat (first | refine blk_drewN ?_ _ | refine blk_drew ?_ | refine blk_alloc ?_ _)); exact BK151.out) Try.underlying28 rfl (by kernel_rfl)) rfl ?_
  exact ⟨_,by first | rfl | (simp [errW_none,errW_some] <;> rfl) | (simp [*,errW_none,errW_some] <;> rfl),by first | exact Kd.R_nil _ _ _ _ _ | exact Kd.N_nil _ _ _ _ _ | exact Kd.V_nil _ _ _ _ _ | exact Kd.Q_nil _ _ _ _ _ | exact Kd.S_nil _ _ _ _ _,bA,by repeat (first | (with_reducible first | exact HK.out | apply Kept.alloc | apply Kept.drewN | apply Kept.drew | refine Kept.setCell ?_ (.inr GW150.out) _ | refine Kept.setCell ?_ (.inr GW151.out) _) | exact HK.out)⟩
 ·rw [if_neg c4] at H
  have c4b0 : decide (65536 < (a1.size : Int)) = false := decide_eq_false c4
  have c4b1 : decide (65536 < a1.size) = false := decide_eq_false (by omega)
  clear c4
  replace H := Option.bind_eq_some_iff.mp H
  obtain ⟨t152,A100,H⟩ := H
  try dsimp only at H
  have A10 := Aside0.mk A100
  clear A100
  by_cases c11 : t152 = 0
  ·rw [if_pos c11] at H
   have c11b0 : (t152 == 0) = true := beq_iff_eq.mpr c11
   have c11b1 : (t152 != 0) = false := bne_eq_false_iff_eq.mpr c11
   clear c11
   replace H := Option.bind_eq_some_iff.mp H
   obtain ⟨⟨t153,t156,t157⟩,A120,H⟩ := H
   try dsimp only at H
   have A12 := Aside0.mk A120
   clear A120
   replace H := Option.bind_eq_some_iff.mp H
   obtain ⟨⟨t159,t162⟩,A130,H⟩ := H
   try dsimp only at H
   have A13 := Aside0.mk A130
   clear A130
   simp only [Option.some.injEq,Prod.mk.injEq] at H
   obtain ⟨rfl,rfl,rfl⟩ := H
   obtain ⟨Ao14,co14,eo14⟩ := Kd.R_slice HO0_0.out
   subst eo14
   go_enter Try.func8,Try.ntmps8
   go_wp2_with (first | ((with_reducible refine gate_dst (N:=3) rfl ?_); refine box_event ?hg (N:=3) ?hd (cs := #[.slice Ao14 l0_0.length co14,.int .i64 a0_1]) (t:=28) ?hr ?_; (case hd => rfl); (case hg => rfl); (case hr => first | (go_simp; done) | (go_simp; rfl)); intro gb150 hg w15 hbox hb; have n0_ := Aside0.mk (Kd.R_below (rA HO0_0.out) hb); have n1_ := Aside0.mk (Kept.below (S:=(fun k_ => P0_0_ k_)) (by repeat (first | (with_reducible first | exact HK.out | apply Kept.alloc | apply Kept.drewN | apply Kept.drew) | exact HK.out)) hb); have n2_ := Aside0.mk (below_step bA hb); have n3_ := Aside0.mk (hbox); have n4_ := Aside0.mk ((by rw [hg]; exact (by first | exact HK.out.1 | exact (show Kept w _ (fun k_ => P0_0_ k_) from by repeat (first | (with_reducible first | exact HK.out | apply Kept.alloc | apply Kept.drewN | apply Kept.drew) | exact HK.out)).1) : w.heap.size ≤ gb150)); have n5_ := Aside0.mk ((by rw [hg]; exact (below_size bA) : w0.heap.size ≤ gb150)); clear HO0_0; clear HK; clear HB; have HO0_0 := n0_; have HK := n1_; have HB := n2_; have BK150 := n3_; have GW150 := n4_; have GE150 := n5_; clear n0_ n1_ n2_ n3_ n4_ n5_; clear hb hbox hg) | ((with_reducible refine gate_dst (N:=6) rfl ?_); refine box_event ?hg (N:=6) ?hd (cs := #[.slice none 0 0,.int .i64 0]) (t:=28) ?hr ?_; (case hd => rfl); (case hg => rfl); (case hr => first | (go_simp; done) | (go_simp; rfl)); intro gb151 hg w16 hbox hb; have n0_ := Aside0.mk (Kd.R_below (rA HO0_0.out) hb); have n1_ := Aside0.mk (blk_below (g:=gb150) (o:=.cells #[.slice Ao14 l0_0.length co14,.int .i64 a0_1] 28 (0,0)) (kA BK150.out) hb); have n2_ := Aside0.mk (Kept.below (S:=(fun k_ => P0_0_ k_)) (by repeat (first | (with_reducible first | exact HK.out | apply Kept.alloc | apply Kept.drewN | apply Kept.drew | refine Kept.setCell ?_ (.inr GW150.out) _) | exact HK.out)) hb); have n3_ := Aside0.mk (below_step bA hb); have n4_ := Aside0.mk (hbox); have n5_ := Aside0.mk ((by rw [hg]; exact (by first | exact HK.out.1 | exact (show Kept w _ (fun k_ => P0_0_ k_) from by repeat (first | (with_reducible first | exact HK.out | apply Kept.alloc | apply Kept.drewN | apply Kept.drew | refine Kept.setCell ?_ (.inr GW150.out) _) | exact HK.out)).1) : w.heap.size ≤ gb151)); have n6_ := Aside0.mk ((by rw [hg]; exact (below_size bA) : w0.heap.size ≤ gb151)); have n7_ := Aside0.mk ((by rw [hg]; exact Nat.ne_of_lt (blk_lt (g:=gb150) (o:=.cells #[.slice Ao14 l0_0.length co14,.int .i64 a0_1] 28 (0,0)) (kA BK150.out)) : gb150 ≠ gb151)); have n8_ := Aside0.mk ((by rw [hg]; exact Nat.ne_of_gt (blk_lt (g:=gb150) (o:=.cells #[.slice Ao14 l0_0.length co14,.int .i64 a0_1] 28 (0,0)) (kA BK150.out)) : gb151 ≠ gb150)); clear HO0_0; clear BK150; clear HK; clear HB; have HO0_0 := n0_; have BK150 := n1_; have HK := n2_; have HB := n3_; have BK151 := n4_; have GW151 := n5_; have GE151 := n6_; have NB150_151 := n7_; have NB151_150 := n8_; clear n0_ n1_ n2_ n3_ n4_ n5_ n6_ n7_ n8_; clear hb hbox hg; have hnb17 := NB150_151.out; have hnc17 := NB151_150.out; have hcz18_0 : w16.cell? ⟨gb150,0,none⟩ = some (.slice Ao14 l0_0.length co14) := (blk_cell BK150.out 0).trans rfl; have hcz18_1 : w16.cell? ⟨gb150,1,none⟩ = some (.int .i64 a0_1) := (blk_cell BK150.out 1).trans rfl; have hfz18_0 := blk_frozen BK150.out 0; have hfz18_1 := blk_frozen BK150.out 1) | ((with_reducible refine gate_callee (f:=24) rfl ?_); refine goesL_ (some 17) rfl rfl Try.func24 (by kernel_rfl) rfl #[.agg #[.slice Ao14 l0_0.length co14,.int .i64 a0_1],.string a1] rfl mA ?_; (with_reducible refine (spec_l01Ask.calls k _ _ l0_0 a0_1 a1 t152 _ ?side1 ?side2 A10.out).mono ?_); (case side1 => repeat (first | exact (Kd.R_reads' HO0_0.out).2.2 | (with_reducible refine Kd.C_alloc ?_ _) | (with_reducible refine Kd.C_drewN ?_ _) | (with_reducible refine Kd.C_drew ?_))); (case side2 => exact (Kd.R_reads' HO0_0.out).2.1); rintro e w19 ⟨rfl,hb⟩; refine ⟨_,rfl,?_⟩; have n0_ := Aside0.mk (Kd.R_below (rA HO0_0.out) hb); have n1_ := Aside0.mk (blk_below (g:=gb150) (o:=.cells #[.slice Ao14 l0_0.length co14,.int .i64 a0_1] 28 (0,0)) (kA BK150.out) hb); have n2_ := Aside0.mk (blk_below (g:=gb151) (o:=.cells #[.slice none 0 0,.int .i64 0] 28 (0,0)) (kA BK151.out) hb); have n3_ := Aside0.mk (Kept.below (S:=(fun k_ => P0_0_ k_)) (by repeat (first | (with_reducible first | exact HK.out | apply Kept.alloc | apply Kept.drewN | apply Kept.drew | refine Kept.setCell ?_ (.inr GW150.out) _ | refine Kept.setCell ?_ (.inr GW151.out) _) | exact HK.out)) hb); have n4_ := Aside0.mk (below_step bA hb); clear HO0_0; clear BK150; clear BK151; clear HK; clear HB; have HO0_0 := n0_; have BK150 := n1_; have BK151 := n2_; have HK := n3_; have HB := n4_; clear n0_ n1_ n2_ n3_ n4_; (try clear hb); (try clear hb2); (try clear hk); (try clear hi); have hcz20_0 : w19.cell? ⟨gb150,0,none⟩ = some (.slice Ao14 l0_0.length co14) := (blk_cell BK150.out 0).trans rfl; have hcz20_1 : w19.cell? ⟨gb150,1,none⟩ = some (.int .i64 a0_1) := (blk_cell BK150.out 1).trans rfl; have hfz20_0 := blk_frozen BK150.out 0; have hfz20_1 := blk_frozen BK150.out 1) | ((with_reducible refine gate_callee (f:=25) rfl ?_); refine goesL_ (some 26) rfl rfl Try.func25 (by kernel_rfl) rfl #[.agg #[.slice Ao14 l0_0.length co14,.int .i64 a0_1],.string a1,.int .i64 a2] rfl mA ?_; (with_reducible refine (spec_l01Delete.calls k (fun k_ => some k_ = (.slice Ao14 l0_0.length co14 : Value).ownBlock) (.slice Ao14 l0_0.length co14) l0_0 a0_1 a1 a2 t153 t156 t157 w0 _ ?side1 ?side2 A12.out).mono ?_); (case side1 => exact bA); (case side2 => exact Kd.R_tight rfl HO0_0.out); rintro e w21 ⟨v154,rfl,ho0,hb,hkp⟩; refine ⟨_,rfl,?_⟩; have n0_ := Aside0.mk (blk_kept (kA BK150.out) hkp (fun hs_ => (fun e_ => (Kd.R_ne HO0_0.out BK150.out (by decide)) e_) hs_)); have n1_ := Aside0.mk (blk_kept (kA BK151.out) hkp (fun hs_ => (fun e_ => (Kd.R_ne HO0_0.out BK151.out (by decide)) e_) hs_)); have n2_ := Aside0.mk (Kd.R_mono (ok' := fun k_ => (P0_0_ k_ ∨ w.heap.size ≤ k_)) ho0 (fun k_ hk_ => Or.elim hk_ (fun hs_ => (HO0_0.out.1 k_ (hs_).symm)) (fun hn_ => (.inr (Nat.le_trans (by first | exact HK.out.1 | exact (show Kept w _ (fun k_ => P0_0_ k_) from by repeat (first | (with_reducible first | exact HK.out | apply Kept.alloc | apply Kept.drewN | apply Kept.drew | refine Kept.setCell ?_ (.inr GW150.out) _ | refine Kept.setCell ?_ (.inr GW151.out) _) | exact HK.out)).1) hn_))))); have n3_ := Aside0.mk (Kept.then_ (S:=(fun k_ => P0_0_ k_)) (by repeat (first | (with_reducible first | exact HK.out | apply Kept.alloc | apply Kept.drewN | apply Kept.drew | refine Kept.setCell ?_ (.inr GW150.out) _ | refine Kept.setCell ?_ (.inr GW151.out) _) | exact HK.out)) hkp (fun k_ hs_ => (fun e_ => (HO0_0.out.1 k_ e_.symm)) hs_)); have n4_ := Aside0.mk (hb); clear BK150; clear BK151; clear HK; clear HB; clear HO0_0; have BK150 := n0_; have BK151 := n1_; have HO155 := n2_; have HK := n3_; have HB := n4_; clear n0_ n1_ n2_ n3_ n4_; (try clear hb); (try clear hkp); (try clear ho0)) | ((with_reducible refine gate_dst (N:=9) rfl ?_); refine box_event ?hg (N:=9) ?hd (cs := #[.slice none 0 0,.int .i64 0]) (t:=28) ?hr ?_; (case hd => rfl); (case hg => rfl); (case hr => first | (go_simp; done) | (go_simp; rfl)); intro gb158 hg w22 hbox hb; have n0_ := Aside0.mk (Kd.R_below (rA HO155.out) hb); have n1_ := Aside0.mk (blk_below (g:=gb150) (o:=.cells #[.slice Ao14 l0_0.length co14,.int .i64 a0_1] 28 (0,0)) (kA BK150.out) hb); have n2_ := Aside0.mk (blk_below (g:=gb151) (o:=.cells #[.slice none 0 0,.int .i64 0] 28 (0,0)) (kA BK151.out) hb); have n3_ := Aside0.mk (Kept.below (S:=(fun k_ => P0_0_ k_)) (by repeat (first | (with_reducible first | exact HK.out | apply Kept.alloc | apply Kept.drewN | apply Kept.drew | refine Kept.setCell ?_ (.inr GW150.out) _ | refine Kept.setCell ?_ (.inr GW151.out) _) | exact HK.out)) hb); have n4_ := Aside0.mk (below_step bA hb); have n5_ := Aside0.mk (hbox); have n6_ := Aside0.mk ((by rw [hg]; exact (by first | exact HK.out.1 | exact (show Kept w _ (fun k_ => P0_0_ k_) from by repeat (first | (with_reducible first | exact HK.out | apply Kept.alloc | apply Kept.drewN | apply Kept.drew | refine Kept.setCell ?_ (.inr GW150.out) _ | refine Kept.setCell ?_ (.inr GW151.out) _) | exact HK.out)).1) : w.heap.size ≤ gb158)); have n7_ := Aside0.mk ((by rw [hg]; exact (below_size bA) : w0.heap.size ≤ gb158)); have n8_ := Aside0.mk ((by rw [hg]; exact Nat.ne_of_lt (blk_lt (g:=gb150) (o:=.cells #[.slice Ao14 l0_0.length co14,.int .i64 a0_1] 28 (0,0)) (kA BK150.out)) : gb150 ≠ gb158)); have n9_ := Aside0.mk ((by rw [hg]; exact Nat.ne_of_gt (blk_lt (g:=gb150) (o:=.cells #[.slice Ao14 l0_0.length co14,.int .i64 a0_1] 28 (0,0)) (kA BK150.out)) : gb158 ≠ gb150)); have n10_ := Aside0.mk ((by rw [hg]; exact Nat.ne_of_lt (blk_lt (g:=gb151) (o:=.cells #[.slice none 0 0,.int .i64 0] 28 (0,0)) (kA BK151.out)) : gb151 ≠ gb158)); have n11_ := Aside0.mk ((by rw [hg]; exact Nat.ne_of_gt (blk_lt (g:=gb151) (o:=.cells #[.slice none 0 0,.int .i64 0] 28 (0,0)) (kA BK151.out)) : gb158 ≠ gb151)); clear HO155; clear BK150; clear BK151; clear HK; clear HB; have HO155 := n0_; have BK150 := n1_; have BK151 := n2_; have HK := n3_; have HB := n4_; have BK158 := n5_; have GW158 := n6_; have GE158 := n7_; have NB150_158 := n8_; have NB158_150 := n9_; have NB151_158 := n10_; have NB158_151 := n11_; clear n0_ n1_ n2_ n3_ n4_ n5_ n6_ n7_ n8_ n9_ n10_ n11_; clear hb hbox hg; obtain ⟨Ao23,co23,eo23⟩ := Kd.R_slice HO155.out; subst eo23; have hnb24 := NB158_150.out; have hnc24 := NB150_158.out; have hnb25 := NB158_151.out; have hnc25 := NB151_158.out; have hcz26_0 : w22.cell? ⟨gb158,0,none⟩ = some (.slice none 0 0) := (blk_cell BK158.out 0).trans rfl; have hcz26_1 : w22.cell? ⟨gb158,1,none⟩ = some (.int .i64 0) := (blk_cell BK158.out 1).trans rfl; have hfz26_0 := blk_frozen BK158.out 0; have hfz26_1 := blk_frozen BK158.out 1) | ((with_reducible refine gate_callee (f:=26) rfl ?_); refine goesL_ (some 30) rfl rfl Try.func26 (by kernel_rfl) rfl #[.agg #[.slice Ao23 t153.length co23,.int .i64 t156]] rfl mA ?_; (with_reducible refine (spec_l01Own.calls _ _ t153 t156 t159 t162 _ ?side1 ?side2 A13.out).mono ?_); (case side1 => refine (Kd.R_reads' (e:=71) (base := w0.heap.size) (ok := fun k_ => (P0_0_ k_ ∨ w.heap.size ≤ k_)) (n:=t153.length) (c:=co23) ?_).2.2; exact (by (with_reducible repeat (first | apply Kd.R_alloc | apply Kd.R_drewN | apply Kd.R_drew)); exact (Kd.R_mono (Kd.R_far (p:=⟨gb158,1,none⟩) (Kd.R_far (p:=⟨gb158,0,none⟩) (Kd.R_types HO155.out BK158.out (by decide)) (fun _ hk => hk.2) (.slice Ao23 t153.length co23)) (fun _ hk => hk.2) (.int .i64 t156)) (fun _ h_ => h_.1)))); (case side2 => exact (Kd.R_reads' HO155.out).2.1); rintro e w27 ⟨v160,rfl,ho0,hb⟩; refine ⟨_,rfl,?_⟩; have n0_ := Aside0.mk (Kd.R_elder' (by (with_reducible repeat (first | apply Kd.R_alloc | apply Kd.R_drewN | apply Kd.R_drew)); exact (Kd.R_mono (Kd.R_far (p:=⟨gb158,1,none⟩) (Kd.R_far (p:=⟨gb158,0,none⟩) (Kd.R_types HO155.out BK158.out (by decide)) (fun _ hk => hk.2) (.slice Ao23 t153.length co23)) (fun _ hk => hk.2) (.int .i64 t156)) (fun _ h_ => h_.1))) (Kd.R_base ho0) hb); have n1_ := Aside0.mk (Kd.R_lower (Kd.R_new' (Kd.R_newM (M:=fun k_ => (P0_0_ k_ ∨ w.heap.size ≤ k_)) ho0 (show Kept w _ (fun k_ => P0_0_ k_) from by repeat (first | (with_reducible first | exact HK.out | apply Kept.alloc | apply Kept.drewN | apply Kept.drew | refine Kept.setCell ?_ (.inr GW150.out) _ | refine Kept.setCell ?_ (.inr GW151.out) _ | refine Kept.setCell ?_ (.inr GW158.out) _) | exact HK.out)).1 (fun k_ h_ => .inr h_)) (Kd.R_lt (by (with_reducible repeat (first | apply Kd.R_alloc | apply Kd.R_drewN | apply Kd.R_drew)); exact (Kd.R_mono (Kd.R_far (p:=⟨gb158,1,none⟩) (Kd.R_far (p:=⟨gb158,0,none⟩) (Kd.R_types HO155.out BK158.out (by decide)) (fun _ hk => hk.2) (.slice Ao23 t153.length co23)) (fun _ hk => hk.2) (.int .i64 t156)) (fun _ h_ => h_.1))))) (below_size bA)); have n2_ := Aside0.mk (blk_below (g:=gb150) (o:=.cells #[.slice Ao14 l0_0.length co14,.int .i64 a0_1] 28 (0,0)) (kF BK150.out) hb); have n3_ := Aside0.mk (blk_below (g:=gb151) (o:=.cells #[.slice none 0 0,.int .i64 0] 28 (0,0)) (kF BK151.out) hb); have n4_ := Aside0.mk (blk_below (g:=gb158) (o:=.cells #[.slice Ao23 t153.length co23,.int .i64 t156] 28 (0,0)) (by (with_reducible repeat (first | refine blk_drewN ?_ _ | refine blk_drew ?_ | refine blk_alloc ?_ _)); refine blk_put (cs := #[.slice Ao23 t153.length co23,.int .i64 0]) ?_ 1 _ rfl; (with_reducible repeat (first | refine blk_drewN ?_ _ | refine blk_drew ?_ | refine blk_alloc ?_ _)); refine blk_put (cs := #[.slice none 0 0,.int .i64 0]) ?_ 0 _ rfl; (with_reducible repeat (first | refine blk_drewN ?_ _ | refine blk_drew ?_ | refine blk_alloc ?_ _)); exact BK158.out) hb); have n5_ := Aside0.mk (Kept.below (S:=(fun k_ => P0_0_ k_)) (by repeat (first | (with_reducible first | exact HK.out | apply Kept.alloc | apply Kept.drewN | apply Kept.drew | refine Kept.setCell ?_ (.inr GW150.out) _ | refine Kept.setCell ?_ (.inr GW151.out) _ | refine Kept.setCell ?_ (.inr GW158.out) _) | exact HK.out)) hb); have n6_ := Aside0.mk (below_step bA hb); clear HO155; clear BK150; clear BK151; clear BK158; clear HK; clear HB; have HO155 := n0_; have HO161 := n1_; have BK150 := n2_; have BK151 := n3_; have BK158 := n4_; have HK := n5_; have HB := n6_; clear n0_ n1_ n2_ n3_ n4_ n5_ n6_; (try clear hb); (try clear hb2); (try clear hk); (try clear hi); (try clear ho0); obtain ⟨Ao28,co28,eo28⟩ := Kd.R_slice HO161.out; subst eo28; have hcz29_0 : w27.cell? ⟨gb151,0,none⟩ = some (.slice none 0 0) := (blk_cell BK151.out 0).trans rfl; have hcz29_1 : w27.cell? ⟨gb151,1,none⟩ = some (.int .i64 0) := (blk_cell BK151.out 1).trans rfl; have hfz29_0 := blk_frozen BK151.out 0; have hfz29_1 := blk_frozen BK151.out 1))
   refine bodyPost_ret (results_ct rfl _ _ gb151 28 #[.slice Ao28 t159.length co28,.int .i64 t162] (0,0) _ rfl (by (with_reducible repeat (first | refine blk_drewN ?_ _ | refine blk_drew ?_ | refine blk_alloc ?_ _)); refine blk_put (cs := #[.slice Ao28 t159.length co28,.int .i64 0]) ?_ 1 _ rfl; (with_reducible repeat (first | refine blk_drewN ?_ _ | refine blk_drew ?_ | refine blk_alloc ?_ _)); refine blk_put (cs := #[.slice none 0 0,.int .i64 0]) ?_ 0 _ rfl; (with_reducible repeat (first | refine blk_drewN ?_ _ | refine blk_drew ?_ | refine blk_alloc ?_ _)); exact BK151.out) Try.underlying28 rfl (by kernel_rfl)) rfl ?_
   exact ⟨_,by first | rfl | (simp [errW_none,errW_some] <;> rfl) | (simp [*,errW_none,errW_some] <;> rfl),by (with_reducible repeat (first | apply Kd.R_alloc | apply Kd.R_drewN | apply Kd.R_drew)); exact Kd.R_mono (Kd.R_far (p:=⟨gb151,1,none⟩) (Kd.R_far (p:=⟨gb151,0,none⟩) (Kd.R_types HO161.out BK151.out (by decide)) (fun _ hk => hk.2) (.slice Ao28 t159.length co28)) (fun _ hk => hk.2) (.int .i64 t162)) (fun _ hk => hk.1.1.1),bA,by repeat (first | (with_reducible first | exact HK.out | apply Kept.alloc | apply Kept.drewN | apply Kept.drew | refine Kept.setCell ?_ (.inr GW150.out) _ | refine Kept.setCell ?_ (.inr GW151.out) _ | refine Kept.setCell ?_ (.inr GW158.out) _) | exact HK.out)⟩
  ·rw [if_neg c11] at H
   have c11b0 : (t152 == 0) = false := beq_eq_false_iff_ne.mpr c11
   have c11b1 : (t152 != 0) = true := bne_iff_ne.mpr c11
   simp only [Option.some.injEq,Prod.mk.injEq] at H
   obtain ⟨rfl,rfl,rfl⟩ := H
   obtain ⟨Ao30,co30,eo30⟩ := Kd.R_slice HO0_0.out
   subst eo30
   go_enter Try.func8,Try.ntmps8
   go_wp2_with (first | ((with_reducible refine gate_dst (N:=3) rfl ?_); refine box_event ?hg (N:=3) ?hd (cs := #[.slice Ao30 l0_0.length co30,.int .i64 a0_1]) (t:=28) ?hr ?_; (case hd => rfl); (case hg => rfl); (case hr => first | (go_simp; done) | (go_simp; rfl)); intro gb150 hg w31 hbox hb; have n0_ := Aside0.mk (Kd.R_below (rA HO0_0.out) hb); have n1_ := Aside0.mk (Kept.below (S:=(fun k_ => P0_0_ k_)) (by repeat (first | (with_reducible first | exact HK.out | apply Kept.alloc | apply Kept.drewN | apply Kept.drew) | exact HK.out)) hb); have n2_ := Aside0.mk (below_step bA hb); have n3_ := Aside0.mk (hbox); have n4_ := Aside0.mk ((by rw [hg]; exact (by first | exact HK.out.1 | exact (show Kept w _ (fun k_ => P0_0_ k_) from by repeat (first | (with_reducible first | exact HK.out | apply Kept.alloc | apply Kept.drewN | apply Kept.drew) | exact HK.out)).1) : w.heap.size ≤ gb150)); have n5_ := Aside0.mk ((by rw [hg]; exact (below_size bA) : w0.heap.size ≤ gb150)); clear HO0_0; clear HK; clear HB; have HO0_0 := n0_; have HK := n1_; have HB := n2_; have BK150 := n3_; have GW150 := n4_; have GE150 := n5_; clear n0_ n1_ n2_ n3_ n4_ n5_; clear hb hbox hg) | ((with_reducible refine gate_dst (N:=6) rfl ?_); refine box_event ?hg (N:=6) ?hd (cs := #[.slice none 0 0,.int .i64 0]) (t:=28) ?hr ?_; (case hd => rfl); (case hg => rfl); (case hr => first | (go_simp; done) | (go_simp; rfl)); intro gb151 hg w32 hbox hb; have n0_ := Aside0.mk (Kd.R_below (rA HO0_0.out) hb); have n1_ := Aside0.mk (blk_below (g:=gb150) (o:=.cells #[.slice Ao30 l0_0.length co30,.int .i64 a0_1] 28 (0,0)) (kA BK150.out) hb); have n2_ := Aside0.mk (Kept.below (S:=(fun k_ => P0_0_ k_)) (by repeat (first | (with_reducible first | exact HK.out | apply Kept.alloc | apply Kept.drewN | apply Kept.drew | refine Kept.setCell ?_ (.inr GW150.out) _) | exact HK.out)) hb); have n3_ := Aside0.mk (below_step bA hb); have n4_ := Aside0.mk (hbox); have n5_ := Aside0.mk ((by rw [hg]; exact (by first | exact HK.out.1 | exact (show Kept w _ (fun k_ => P0_0_ k_) from by repeat (first | (with_reducible first | exact HK.out | apply Kept.alloc | apply Kept.drewN | apply Kept.drew | refine Kept.setCell ?_ (.inr GW150.out) _) | exact HK.out)).1) : w.heap.size ≤ gb151)); have n6_ := Aside0.mk ((by rw [hg]; exact (below_size bA) : w0.heap.size ≤ gb151)); have n7_ := Aside0.mk ((by rw [hg]; exact Nat.ne_of_lt (blk_lt (g:=gb150) (o:=.cells #[.slice Ao30 l0_0.length co30,.int .i64 a0_1] 28 (0,0)) (kA BK150.out)) : gb150 ≠ gb151)); have n8_ := Aside0.mk ((by rw [hg]; exact Nat.ne_of_gt (blk_lt (g:=gb150) (o:=.cells #[.slice Ao30 l0_0.length co30,.int .i64 a0_1] 28 (0,0)) (kA BK150.out)) : gb151 ≠ gb150)); clear HO0_0; clear BK150; clear HK; clear HB; have HO0_0 := n0_; have BK150 := n1_; have HK := n2_; have HB := n3_; have BK151 := n4_; have GW151 := n5_; have GE151 := n6_; have NB150_151 := n7_; have NB151_150 := n8_; clear n0_ n1_ n2_ n3_ n4_ n5_ n6_ n7_ n8_; clear hb hbox hg; have hnb33 := NB150_151.out; have hnc33 := NB151_150.out; have hcz34_0 : w32.cell? ⟨gb150,0,none⟩ = some (.slice Ao30 l0_0.length co30) := (blk_cell BK150.out 0).trans rfl; have hcz34_1 : w32.cell? ⟨gb150,1,none⟩ = some (.int .i64 a0_1) := (blk_cell BK150.out 1).trans rfl; have hfz34_0 := blk_frozen BK150.out 0; have hfz34_1 := blk_frozen BK150.out 1) | ((with_reducible refine gate_callee (f:=24) rfl ?_); refine goesL_ (some 17) rfl rfl Try.func24 (by kernel_rfl) rfl #[.agg #[.slice Ao30 l0_0.length co30,.int .i64 a0_1],.string a1] rfl mA ?_; (with_reducible refine (spec_l01Ask.calls k _ _ l0_0 a0_1 a1 t152 _ ?side1 ?side2 A10.out).mono ?_); (case side1 => repeat (first | exact (Kd.R_reads' HO0_0.out).2.2 | (with_reducible refine Kd.C_alloc ?_ _) | (with_reducible refine Kd.C_drewN ?_ _) | (with_reducible refine Kd.C_drew ?_))); (case side2 => exact (Kd.R_reads' HO0_0.out).2.1); rintro e w35 ⟨rfl,hb⟩; refine ⟨_,rfl,?_⟩; have n0_ := Aside0.mk (Kd.R_below (rA HO0_0.out) hb); have n1_ := Aside0.mk (blk_below (g:=gb150) (o:=.cells #[.slice Ao30 l0_0.length co30,.int .i64 a0_1] 28 (0,0)) (kA BK150.out) hb); have n2_ := Aside0.mk (blk_below (g:=gb151) (o:=.cells #[.slice none 0 0,.int .i64 0] 28 (0,0)) (kA BK151.out) hb); have n3_ := Aside0.mk (Kept.below (S:=(fun k_ => P0_0_ k_)) (by repeat (first | (with_reducible first | exact HK.out | apply Kept.alloc | apply Kept.drewN | apply Kept.drew | refine Kept.setCell ?_ (.inr GW150.out) _ | refine Kept.setCell ?_ (.inr GW151.out) _) | exact HK.out)) hb); have n4_ := Aside0.mk (below_step bA hb); clear HO0_0; clear BK150; clear BK151; clear HK; clear HB; have HO0_0 := n0_; have BK150 := n1_; have BK151 := n2_; have HK := n3_; have HB := n4_; clear n0_ n1_ n2_ n3_ n4_; (try clear hb); (try clear hb2); (try clear hk); (try clear hi); have hcz36_0 : w35.cell? ⟨gb151,0,none⟩ = some (.slice none 0 0) := (blk_cell BK151.out 0).trans rfl; have hcz36_1 : w35.cell? ⟨gb151,1,none⟩ = some (.int .i64 0) := (blk_cell BK151.out 1).trans rfl; have hfz36_0 := blk_frozen BK151.out 0; have hfz36_1 := blk_frozen BK151.out 1))
   refine bodyPost_ret (results_ct rfl _ _ gb151 28 #[.slice none 0 0,.int .i64 0] (0,0) _ rfl (by (with_reducible repeat (first | refine blk_drewN ?_ _ | refine blk_drew ?_ | refine blk_alloc ?_ _)); refine blk_put (cs := #[.slice none 0 0,.int .i64 0]) ?_ 1 _ rfl; (with_reducible repeat (first | refine blk_drewN ?_ _ | refine blk_drew ?_ | refine blk_alloc ?_ _)); refine blk_put (cs := #[.slice none 0 0,.int .i64 0]) ?_ 0 _ rfl; (with_reducible repeat (first | refine blk_drewN ?_ _ | refine blk_drew ?_ | refine blk_alloc ?_ _)); exact BK151.out) Try.underlying28 rfl (by kernel_rfl)) rfl ?_
   exact ⟨_,by first | rfl | (simp [errW_none,errW_some] <;> rfl) | (simp [*,errW_none,errW_some] <;> rfl),by first | exact Kd.R_nil _ _ _ _ _ | exact Kd.N_nil _ _ _ _ _ | exact Kd.V_nil _ _ _ _ _ | exact Kd.Q_nil _ _ _ _ _ | exact Kd.S_nil _ _ _ _ _,bA,by repeat (first | (with_reducible first | exact HK.out | apply Kept.alloc | apply Kept.drewN | apply Kept.drew | refine Kept.setCell ?_ (.inr GW150.out) _ | refine Kept.setCell ?_ (.inr GW151.out) _) | exact HK.out)⟩

/-! ### laws_toObject: function 54 -/
def laws_toObject.f (a0_0 : ByteArray) (a0_1 : Int) (a0_2 : ByteArray) : Option (ByteArray × Int × ByteArray) := some (a0_0,a0_1,a0_2)
set_option maxHeartbeats 8000000 in
set_option maxRecDepth 100000 in
theorem laws_toObject.calls (a0_0 : ByteArray) (a0_1 : Int) (a0_2 : ByteArray) (r1 : ByteArray) (r2 : Int) (r3 : ByteArray) (w : World) (h : laws_toObject.f a0_0 a0_1 a0_2 = some (r1,r2,r3)) :
  Calls Try.prog 54 #[.agg #[.string a0_0,.int .i64 a0_1,.string a0_2]] w fun e w' => e = .returned (.agg #[.string r1,.int .i64 r2,.string r3]) ∧ Below w.heap.size w w' := by
 have hu70 := Try.underlying70
 have hu71 := Try.underlying71
 have HB := Aside0.mk (Below.refl w.heap.size w)
 have H : (some (a0_0,a0_1,a0_2)) = some (r1,r2,r3) := h
 clear h
 simp only [Option.some.injEq,Prod.mk.injEq] at H
 obtain ⟨rfl,rfl,rfl⟩ := H
 go_enter Try.func54,Try.ntmps54
 go_wp2_with (first | ((with_reducible refine gate_dst (N:=1) rfl ?_); refine box_event ?hg (N:=1) ?hd (cs := #[.string a0_0,.int .i64 a0_1,.string a0_2]) (t:=70) ?hr ?_; (case hd => rfl); (case hg => rfl); (case hr => first | (go_simp; done) | (go_simp; rfl)); intro gb163 hg w2 hbox hb; have n0_ := Aside0.mk (below_step bA hb); have n1_ := Aside0.mk (hbox); have n2_ := Aside0.mk ((by rw [hg]; exact (below_size bA) : w.heap.size ≤ gb163)); have n3_ := Aside0.mk ((by rw [hg]; exact (below_size bA) : w.heap.size ≤ gb163)); clear HB; have HB := n0_; have BK163 := n1_; have GW163 := n2_; have GE163 := n3_; clear n0_ n1_ n2_ n3_; clear hb hbox hg) | ((with_reducible refine gate_dst (N:=2) rfl ?_); refine box_event ?hg (N:=2) ?hd (cs := #[.string (⟨#[]⟩ : ByteArray),.int .i64 0,.string (⟨#[]⟩ : ByteArray)]) (t:=71) ?hr ?_; (case hd => rfl); (case hg => rfl); (case hr => first | (go_simp; done) | (go_simp; rfl)); intro gb164 hg w3 hbox hb; have n0_ := Aside0.mk (blk_below (g:=gb163) (o:=.cells #[.string a0_0,.int .i64 a0_1,.string a0_2] 70 (0,0)) (kA BK163.out) hb); have n1_ := Aside0.mk (below_step bA hb); have n2_ := Aside0.mk (hbox); have n3_ := Aside0.mk ((by rw [hg]; exact (below_size bA) : w.heap.size ≤ gb164)); have n4_ := Aside0.mk ((by rw [hg]; exact (below_size bA) : w.heap.size ≤ gb164)); have n5_ := Aside0.mk ((by rw [hg]; exact Nat.ne_of_lt (blk_lt (g:=gb163) (o:=.cells #[.string a0_0,.int .i64 a0_1,.string a0_2] 70 (0,0)) (kA BK163.out)) : gb163 ≠ gb164)); have n6_ := Aside0.mk ((by rw [hg]; exact Nat.ne_of_gt (blk_lt (g:=gb163) (o:=.cells #[.string a0_0,.int .i64 a0_1,.string a0_2] 70 (0,0)) (kA BK163.out)) : gb164 ≠ gb163)); clear BK163; clear HB; have BK163 := n0_; have HB := n1_; have BK164 := n2_; have GW164 := n3_; have GE164 := n4_; have NB163_164 := n5_; have NB164_163 := n6_; clear n0_ n1_ n2_ n3_ n4_ n5_ n6_; clear hb hbox hg) | ((with_reducible refine gate_dst (N:=3) rfl ?_); refine box_event ?hg (N:=3) ?hd (cs := #[.string (⟨#[]⟩ : ByteArray),.int .i64 0,.string (⟨#[]⟩ : ByteArray)]) (t:=71) ?hr ?_; (case hd => rfl); (case hg => rfl); (case hr => first | (go_simp; done) | (go_simp; rfl)); intro gb165 hg w4 hbox hb; have n0_ := Aside0.mk (blk_below (g:=gb163) (o:=.cells #[.string a0_0,.int .i64 a0_1,.string a0_2] 70 (0,0)) (kA BK163.out) hb); have n1_ := Aside0.mk (blk_below (g:=gb164) (o:=.cells #[.string (⟨#[]⟩ : ByteArray),.int .i64 0,.string (⟨#[]⟩ : ByteArray)] 71 (0,0)) (kA BK164.out) hb); have n2_ := Aside0.mk (below_step bA hb); have n3_ := Aside0.mk (hbox); have n4_ := Aside0.mk ((by rw [hg]; exact (below_size bA) : w.heap.size ≤ gb165)); have n5_ := Aside0.mk ((by rw [hg]; exact (below_size bA) : w.heap.size ≤ gb165)); have n6_ := Aside0.mk ((by rw [hg]; exact Nat.ne_of_lt (blk_lt (g:=gb163) (o:=.cells #[.string a0_0,.int .i64 a0_1,.string a0_2] 70 (0,0)) (kA BK163.out)) : gb163 ≠ gb165)); have n7_ := Aside0.mk ((by rw [hg]; exact Nat.ne_of_gt (blk_lt (g:=gb163) (o:=.cells #[.string a0_0,.int .i64 a0_1,.string a0_2] 70 (0,0)) (kA BK163.out)) : gb165 ≠ gb163)); have n8_ := Aside0.mk ((by rw [hg]; exact Nat.ne_of_lt (blk_lt (g:=gb164) (o:=.cells #[.string (⟨#[]⟩ : ByteArray),.int .i64 0,.string (⟨#[]⟩ : ByteArray)] 71 (0,0)) (kA BK164.out)) : gb164 ≠ gb165)); have n9_ := Aside0.mk ((by rw [hg]; exact Nat.ne_of_gt (blk_lt (g:=gb164) (o:=.cells #[.string (⟨#[]⟩ : ByteArray),.int .i64 0,.string (⟨#[]⟩ : ByteArray)] 71 (0,0)) (kA BK164.out)) : gb165 ≠ gb164)); clear BK163; clear BK164; clear HB; have BK163 := n0_; have BK164 := n1_; have HB := n2_; have BK165 := n3_; have GW165 := n4_; have GE165 := n5_; have NB163_165 := n6_; have NB165_163 := n7_; have NB164_165 := n8_; have NB165_164 := n9_; clear n0_ n1_ n2_ n3_ n4_ n5_ n6_ n7_ n8_ n9_; clear hb hbox hg; have hnb5 := NB163_164.out; have hnc5 := NB164_163.out; have hnb6 := NB163_165.out; have hnc6 := NB165_163.out; have hcz7_0 : w4.cell? ⟨gb163,0,none⟩ = some (.string a0_0) := (blk_cell BK163.out 0).trans rfl; have hcz7_1 : w4.cell? ⟨gb163,1,none⟩ = some (.int .i64 a0_1) := (blk_cell BK163.out 1).trans rfl; have hcz7_2 : w4.cell? ⟨gb163,2,none⟩ = some (.string a0_2) := (blk_cell BK163.out 2).trans rfl; have hfz7_0 := blk_frozen BK163.out 0; have hfz7_1 := blk_frozen BK163.out 1; have hfz7_2 := blk_frozen BK163.out 2; have hnb8 := NB165_164.out; have hnc8 := NB164_165.out; have hcz9_0 : w4.cell? ⟨gb165,0,none⟩ = some (.string (⟨#[]⟩ : ByteArray)) := (blk_cell BK165.out 0).trans rfl; have hcz9_1 : w4.cell? ⟨gb165,1,none⟩ = some (.int .i64 0) := (blk_cell BK165.out 1).trans rfl; have hcz9_2 : w4.cell? ⟨gb165,2,none⟩ = some (.string (⟨#[]⟩ : ByteArray)) := (blk_cell BK165.out 2).trans rfl; have hfz9_0 := blk_frozen BK165.out 0; have hfz9_1 := blk_frozen BK165.out 1; have hfz9_2 := blk_frozen BK165.out 2; have hcz10_0 : w4.cell? ⟨gb164,0,none⟩ = some (.string (⟨#[]⟩ : ByteArray)) := (blk_cell BK164.out 0).trans rfl; have hcz10_1 : w4.cell? ⟨gb164,1,none⟩ = some (.int .i64 0) := (blk_cell BK164.out 1).trans rfl; have hcz10_2 : w4.cell? ⟨gb164,2,none⟩ = some (.string (⟨#[]⟩ : ByteArray)) := (blk_cell BK164.out 2).trans rfl; have hfz10_0 := blk_frozen BK164.out 0; have hfz10_1 := blk_frozen BK164.out 1; have hfz10_2 := blk_frozen BK164.out 2))
 refine bodyPost_ret (results_cell_row rfl _ _ gb164 71 #[.string a0_0,.int .i64 a0_1,.string a0_2] (0,0) _ rfl (by (with_reducible repeat (first | refine blk_drewN ?_ _ | refine blk_drew ?_ | refine blk_alloc ?_ _)); refine blk_put (cs := #[.string a0_0,.int .i64 a0_1,.string (⟨#[]⟩ : ByteArray)]) ?_ 2 _ rfl; (with_reducible repeat (first | refine blk_drewN ?_ _ | refine blk_drew ?_ | refine blk_alloc ?_ _)); refine blk_put (cs := #[.string a0_0,.int .i64 0,.string (⟨#[]⟩ : ByteArray)]) ?_ 1 _ rfl; (with_reducible repeat (first | refine blk_drewN ?_ _ | refine blk_drew ?_ | refine blk_alloc ?_ _)); refine blk_put (cs := #[.string (⟨#[]⟩ : ByteArray),.int .i64 0,.string (⟨#[]⟩ : ByteArray)]) ?_ 0 _ rfl; (with_reducible repeat (first | refine blk_drewN ?_ _ | refine blk_drew ?_ | refine blk_alloc ?_ _)); refine blk_far ?_ NB164_165.out _; (with_reducible repeat (first | refine blk_drewN ?_ _ | refine blk_drew ?_ | refine blk_alloc ?_ _)); refine blk_far ?_ NB164_165.out _; (with_reducible repeat (first | refine blk_drewN ?_ _ | refine blk_drew ?_ | refine blk_alloc ?_ _)); refine blk_far ?_ NB164_165.out _; (with_reducible repeat (first | refine blk_drewN ?_ _ | refine blk_drew ?_ | refine blk_alloc ?_ _)); exact BK164.out) Try.underlying71 rfl (by kernel_rfl)) rfl ?_
 exact ⟨by first | rfl | (simp [errW_none,errW_some] <;> rfl) | (simp [*,errW_none,errW_some] <;> rfl),bA⟩

end Go.Proofs.Ytbodkbaniebfaaa.XFnExactDeleteVersion
