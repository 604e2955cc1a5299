-- Printed by this session's own program wip/tools/xprint.py, which widens the kit's print. Not trusted: Lean checks it.
import Derived.Test.YtbodkbaniebfaaaXFnExactPutVersionx0
import Derived.Test.YtbodkbaniebfaaaXFnExactPutVersionx8
import Derived.Test.YtbodkbaniebfaaaXFnExactPutVersionx11
import Derived.Test.YtbodkbaniebfaaaXFnExactPutVersionx12
namespace Go.Proofs.Ytbodkbaniebfaaa.XFnExactPutVersion
open List (setIfInBounds_toArray set_cons_zero set_cons_succ)
open Go.RowKit Go.Proofs.YtbodkbaniebfaaaW.PrintWords Go.Proofs.YtbodkbaniebfaaaW.PrintLast Go.Proofs.YtbodkbaniebfaaaW.PrintMore
attribute [local go_sem] max2_int min2_int max_two min_two max_three min_three max_four min_four   -- for this text's walks alone
set_option linter.unusedVariables false
set_option linter.unusedSimpArgs false

/-! ### impl_Store_put: function 50 -/
def impl_Store_put.j0 : Nat → ByteArray → ByteArray → Int → Bool → Int → List (S71) → Int → Option ((List (S71)) × Int × Int × Int)
 | 0,_,_,_,_,_,_,_ => none
 | k + 1,x1,x2,x9,x10,x11,x315000,x315001 => if x11 = 0 then ((impl_Store_copied.f x315000 x315001).bind fun bt330 => (if x10 = true then (if 0 ≤ x9 then (if x9 < (bt330.1.length : Int) then (some ((bt330.1.set (x9 : Int).toNat (⟨x1,x315001,x2⟩ : S71)),wrap64 (bt330.2 + 1),x315001,0)) else (none)) else (none)) else (if bt330.1.length < 3518437208000 ∧ 0 ≤ x9 ∧ x9 ≤ (bt330.1.length : Int) then (some ((bt330.1.take (x9 : Int).toNat ++ (⟨x1,x315001,x2⟩ : S71) :: bt330.1.drop (x9 : Int).toNat),wrap64 (bt330.2 + 1),x315001,0)) else (none)))) else (some (x315000,x315001,0,x11))
def impl_Store_put.f (k : Nat) (l0_0 : List (S71)) (a0_1 : Int) (a1 : ByteArray) (a2 : ByteArray) : Option ((List (S71)) × Int × Int × Int) := (impl_Store_find.f l0_0 a0_1 a1).bind fun bt316 => (if bt316.2 = true then ((impl_first.f k (([anyB (decide ((a2.size : Int) > 600)),anyI 8,anyB (a0_1 == 1000000000),anyI 7] : List AnyV))).bind fun t321 => (impl_Store_put.j0 k a1 a2 bt316.1 bt316.2 t321 l0_0 a0_1)) else (if (l0_0.length : Int) = 300 then ((impl_first.f k (([anyB (decide ((a2.size : Int) > 600)),anyI 8,anyB true,anyI 7] : List AnyV))).bind fun t325 => (impl_Store_put.j0 k a1 a2 bt316.1 bt316.2 t325 l0_0 a0_1)) else ((impl_first.f k (([anyB (decide ((a2.size : Int) > 600)),anyI 8,anyB (a0_1 == 1000000000),anyI 7] : List AnyV))).bind fun t329 => (impl_Store_put.j0 k a1 a2 bt316.1 bt316.2 t329 l0_0 a0_1))))
theorem impl_Store_put.mono_l : ∀ k,(∀ y0 y1 y2 y3 y4 y5 y6,LeO (impl_Store_put.j0 k y0 y1 y2 y3 y4 y5 y6) (impl_Store_put.j0 (k + 1) y0 y1 y2 y3 y4 y5 y6))
 | 0 => fun _ _ _ _ _ _ _ r h => by simp [impl_Store_put.j0] at h
 | k + 1 => by
  have ih0 := impl_Store_put.mono_l k
  ·intro y0 y1 y2 y3 y4 y5 y6
   unfold impl_Store_put.j0
   repeat' first
   | (with_reducible exact ih0 _ _ _ _ _ _ _)
   | (with_reducible exact impl_first.mono _ _)
   | (with_reducible exact LeO.refl _)
   | (with_reducible exact LeO.none _)
   | (with_reducible refine LeO.ite ?_ ?_)
   | (with_reducible refine LeO.bind ?_ (fun _ => ?_))
   | exact ih0 _ _ _ _ _ _ _
   | exact impl_first.mono _ _
   | exact LeO.none _
   | refine LeO.ite ?_ ?_
   | refine LeO.bind ?_ (fun _ => ?_)
theorem impl_Store_put.mono : ∀ a0 a1 a2 a3 k,LeO (impl_Store_put.f k a0 a1 a2 a3) (impl_Store_put.f (k + 1) a0 a1 a2 a3) := by
 intro a0 a1 a2 a3 k
 have ih0 := impl_Store_put.mono_l k
 unfold impl_Store_put.f
 repeat' first
   | (with_reducible exact ih0 _ _ _ _ _ _ _)
   | (with_reducible exact impl_first.mono _ _)
   | (with_reducible exact LeO.refl _)
   | (with_reducible exact LeO.none _)
   | (with_reducible refine LeO.ite ?_ ?_)
   | (with_reducible refine LeO.bind ?_ (fun _ => ?_))
   | exact ih0 _ _ _ _ _ _ _
   | exact impl_first.mono _ _
   | exact LeO.none _
   | refine LeO.ite ?_ ?_
   | refine LeO.bind ?_ (fun _ => ?_)
def impl_Store_put.T5 : Bool × List (List Nat × List Nat) := (true,[([],[]),([0],[0]),([],[]),([],[]),([3],[3]),([],[]),([2,4,5],[2,4,5]),([],[]),([],[]),([7,1,1,0,1,7,8],[1,7]),([8,6,9,0,1,2,3,4,5,6,7,8,9],[6,8])])
def impl_Store_put.B5 : List Nat := [0,1,0,0,8,0,60,0,0,387,1023]
theorem impl_Store_put.tab5 : rtab .any (opsOf Try.f50 5) = impl_Store_put.T5 := by kernel_rfl
theorem impl_Store_put.bits5 : waitsOk impl_Store_put.T5.2 impl_Store_put.B5 = true := by kernel_rfl
set_option maxHeartbeats 8000000 in
set_option maxRecDepth 100000 in
theorem impl_Store_put.calls (k : Nat) (P0_0_ : Nat → Prop) (A0_0 : Option Addr) (c0_0 : Nat) (l0_0 : List (S71)) (a0_1 : Int) (a1 : ByteArray) (a2 : ByteArray) (r1 : List (S71)) (r2 : Int) (r3 : Int) (r4 : Int) (w : World) (hs0_0 : Kd.V k71 71 w w.heap.size (fun k_ => P0_0_ k_) (.slice A0_0 l0_0.length c0_0) l0_0) (h : impl_Store_put.f k l0_0 a0_1 a1 a2 = some (r1,r2,r3,r4)) :
  Calls Try.prog 50 #[.agg #[.slice A0_0 l0_0.length c0_0,.int .i64 a0_1],.string a1,.string a2] w fun e w' => ∃ v0_ : Value,e = .returned (.tuple #[.agg #[v0_,.int .i64 r2],.int .i64 r3,.int .i64 r4]) ∧ Kd.V k71 71 w' w.heap.size (fun k_ => (P0_0_ k_ ∨ w.heap.size ≤ k_)) v0_ r1 ∧ Below w.heap.size w w' := by
 have hu28 := Try.underlying28
 have hu71 := Try.underlying71
 have hua20 := Try.underlying20
 have HO0_0 := Aside0.mk (show Kd.V k71 71 w w.heap.size (fun k_ => (P0_0_ k_ ∨ w.heap.size ≤ k_)) (.slice A0_0 l0_0.length c0_0) l0_0 from Kd.V_mono hs0_0 (fun k_ hk => .inl hk))
 have HB := Aside0.mk (Below.refl w.heap.size w)
 have H : ((impl_Store_find.f l0_0 a0_1 a1).bind fun bt316 => (if bt316.2 = true then ((impl_first.f k (([anyB (decide ((a2.size : Int) > 600)),anyI 8,anyB (a0_1 == 1000000000),anyI 7] : List AnyV))).bind fun t321 => (impl_Store_put.j0 k a1 a2 bt316.1 bt316.2 t321 l0_0 a0_1)) else (if (l0_0.length : Int) = 300 then ((impl_first.f k (([anyB (decide ((a2.size : Int) > 600)),anyI 8,anyB true,anyI 7] : List AnyV))).bind fun t325 => (impl_Store_put.j0 k a1 a2 bt316.1 bt316.2 t325 l0_0 a0_1)) else ((impl_first.f k (([anyB (decide ((a2.size : Int) > 600)),anyI 8,anyB (a0_1 == 1000000000),anyI 7] : List AnyV))).bind fun t329 => (impl_Store_put.j0 k a1 a2 bt316.1 bt316.2 t329 l0_0 a0_1))))) = some (r1,r2,r3,r4) := h
 clear h
 replace H := Option.bind_eq_some_iff.mp H
 obtain ⟨⟨t316,t317⟩,A40,H⟩ := H
 try dsimp only at H
 have A4 := Aside0.mk A40
 clear A40
 have HC5 := Aside0.mk H
 clear H
 go_enter Try.func50,Try.ntmps50
 go_upto_region 2 with (first | ((with_reducible refine gate_dst (N:=3) rfl ?_); (try (refine gate_guard (by rfl) ?_; dsimp only)); refine box_event ?hg (N:=3) ?hd (cs := #[.slice A0_0 l0_0.length c0_0,.int .i64 a0_1]) (t:=28) ?hr ?_; (case hd => rfl); (case hg => rfl); (case hr => first | (go_simp; done) | (go_simp; rfl)); intro gb314 hg w6 hbox hb; have n0_ := Aside0.mk (Kd.V_below (Kd.V_elderB (by (with_reducible repeat (first | apply Kd.V_alloc | apply Kd.V_drewN | apply Kd.V_drew)); exact HO0_0.out) gb314 (Nat.le_of_eq hg.symm)) hb); have n1_ := Aside0.mk (below_step bA hb); have n2_ := Aside0.mk (hbox); have n3_ := Aside0.mk ((by rw [hg]; exact (below_size bA) : w.heap.size ≤ gb314)); have n4_ := Aside0.mk ((by rw [hg]; exact (below_size bA) : w.heap.size ≤ gb314)); clear HO0_0; clear HB; have HO0_0 := n0_; have HB := n1_; have BK314 := n2_; have GW314 := n3_; have GE314 := n4_; clear n0_ n1_ n2_ n3_ n4_; clear hb hbox hg) | ((with_reducible refine gate_dst (N:=6) rfl ?_); (try (refine gate_guard (by rfl) ?_; dsimp only)); refine box_event ?hg (N:=6) ?hd (cs := #[.slice none 0 0,.int .i64 0]) (t:=28) ?hr ?_; (case hd => rfl); (case hg => rfl); (case hr => first | (go_simp; done) | (go_simp; rfl)); intro gb315 hg w7 hbox hb; have n0_ := Aside0.mk (Kd.V_below (Kd.V_elderB (by (with_reducible repeat (first | apply Kd.V_alloc | apply Kd.V_drewN | apply Kd.V_drew)); exact HO0_0.out) gb315 (Nat.le_of_eq hg.symm)) hb); have n1_ := Aside0.mk (blk_below (g:=gb314) (o:=.cells #[.slice A0_0 l0_0.length c0_0,.int .i64 a0_1] 28 (0,0)) (kA BK314.out) hb); have n2_ := Aside0.mk (below_step bA hb); have n3_ := Aside0.mk (hbox); have n4_ := Aside0.mk ((by rw [hg]; exact (below_size bA) : w.heap.size ≤ gb315)); have n5_ := Aside0.mk ((by rw [hg]; exact (below_size bA) : w.heap.size ≤ gb315)); have n6_ := Aside0.mk ((by rw [hg]; exact Nat.ne_of_lt (blk_lt (g:=gb314) (o:=.cells #[.slice A0_0 l0_0.length c0_0,.int .i64 a0_1] 28 (0,0)) (kA BK314.out)) : gb314 ≠ gb315)); have n7_ := Aside0.mk ((by rw [hg]; exact Nat.ne_of_gt (blk_lt (g:=gb314) (o:=.cells #[.slice A0_0 l0_0.length c0_0,.int .i64 a0_1] 28 (0,0)) (kA BK314.out)) : gb315 ≠ gb314)); clear HO0_0; clear BK314; clear HB; have HO0_0 := n0_; have BK314 := n1_; have HB := n2_; have BK315 := n3_; have GW315 := n4_; have GE315 := n5_; have NB314_315 := n6_; have NB315_314 := n7_; clear n0_ n1_ n2_ n3_ n4_ n5_ n6_ n7_; clear hb hbox hg; have hnb8 := NB314_315.out; have hnc8 := NB315_314.out; have hcz9_0 : w7.cell? ⟨gb314,0,none⟩ = some (.slice A0_0 l0_0.length c0_0) := (blk_cell BK314.out 0).trans rfl; have hcz9_1 : w7.cell? ⟨gb314,1,none⟩ = some (.int .i64 a0_1) := (blk_cell BK314.out 1).trans rfl; have hfz9_0 := blk_frozen BK314.out 0; have hfz9_1 := blk_frozen BK314.out 1) | ((with_reducible refine gate_callee (f:=58) rfl ?_); refine goesL_ (some 17) rfl rfl Try.func58 (by kernel_rfl) rfl #[.agg #[.slice A0_0 l0_0.length c0_0,.int .i64 a0_1],.string a1] rfl mA ?_; (with_reducible refine (impl_Store_find.calls _ _ l0_0 a0_1 a1 t316 t317 _ ?side1 ?side2 A4.out).mono ?_); (case side1 => repeat (first | exact (Kd.V_reads' HO0_0.out).2.2 | (with_reducible refine Kd.C_alloc ?_ _) | (with_reducible refine Kd.C_drewN ?_ _) | (with_reducible refine Kd.C_drew ?_))); (case side2 => exact (Kd.V_reads' HO0_0.out).2.1); rintro e w10 ⟨rfl,hb⟩; refine ⟨_,rfl,?_⟩; have n0_ := Aside0.mk (Kd.V_below (by (with_reducible repeat (first | apply Kd.V_alloc | apply Kd.V_drewN | apply Kd.V_drew)); exact HO0_0.out) hb); have n1_ := Aside0.mk (blk_below (g:=gb314) (o:=.cells #[.slice A0_0 l0_0.length c0_0,.int .i64 a0_1] 28 (0,0)) (kA BK314.out) hb); have n2_ := Aside0.mk (blk_below (g:=gb315) (o:=.cells #[.slice none 0 0,.int .i64 0] 28 (0,0)) (kA BK315.out) hb); have n3_ := Aside0.mk (below_step bA hb); clear HO0_0; clear BK314; clear BK315; clear HB; have HO0_0 := n0_; have BK314 := n1_; have BK315 := n2_; have HB := n3_; clear n0_ n1_ n2_ n3_; (try clear hb); (try clear hb2); (try clear hk); (try clear hi)))
 (try simp only [Act.put,setIfInBounds_toArray,set_cons_zero,set_cons_succ])
 go_cut [11] (fun v11 wc => ∃ (kq : Nat) (x11_4 : Int),v11 = .int .i64 x11_4 ∧ Aside0 (impl_Store_put.j0 kq a1 a2 t316 t317 x11_4 l0_0 a0_1 = some (r1,r2,r3,r4)) ∧ Aside0 (kq ≤ k) ∧ Aside0 (Kd.V k71 71 wc w.heap.size (fun k_ => (P0_0_ k_ ∨ w.heap.size ≤ k_) ∧ k_ ≠ gb314 ∧ k_ ≠ gb315) (.slice A0_0 l0_0.length c0_0) l0_0) ∧ Aside0 (wc.heap[gb314]? = some (.cells #[(.slice A0_0 l0_0.length c0_0),.int .i64 a0_1] 28 (0,0))) ∧ Aside0 (wc.heap[gb315]? = some (.cells #[(.slice none 0 0),.int .i64 0] 28 (0,0))) ∧ Aside0 (Below w.heap.size w wc))
 case first =>
  have H := HC5.out
  clear HC5
  by_cases c11 : t317 = true
  ·subst c11
   rw [if_pos rfl] at H
   obtain ⟨y318,hy318⟩ : ∃ y_ : List AnyV,y_ = (([anyB (decide ((a2.size : Int) > 600)),anyI 8,anyB (a0_1 == 1000000000),anyI 7] : List AnyV)) := ⟨_,rfl⟩
   replace H : ((impl_first.f k y318).bind fun t321 => (impl_Store_put.j0 k a1 a2 t316 true t321 l0_0 a0_1)) = some (r1,r2,r3,r4) := by first | (rw [hy318]; with_reducible exact H) | (have H2_ := (Option.bind_some _ _).symm.trans H; rw [hy318]; with_reducible exact H2_) | (have H2_ := (Option.bind_some _ _).symm.trans H; with_reducible exact H2_) | with_reducible exact H | (rw [hy318]; exact H) | exact H
   have Ny318 := Aside0.mk hy318
   clear hy318
   replace H := Option.bind_eq_some_iff.mp H
   obtain ⟨t321,A120,H⟩ := H
   try dsimp only at H
   have A12 := Aside0.mk A120
   clear A120
   have H' := Aside0.mk H
   clear H
   have hnb13 := NB314_315.out
   have hnc13 := NB315_314.out
   have hcz14_0 : w10.cell? ⟨gb314,0,none⟩ = some (.slice A0_0 l0_0.length c0_0) := (blk_cell BK314.out 0).trans rfl
   have hcz14_1 : w10.cell? ⟨gb314,1,none⟩ = some (.int .i64 a0_1) := (blk_cell BK314.out 1).trans rfl
   have hfz14_0 := blk_frozen BK314.out 0
   have hfz14_1 := blk_frozen BK314.out 1
   go_wp2_with (first | ((with_reducible refine gate_dst (N:=40) rfl ?_); (try (refine gate_guard (by rfl) ?_; dsimp only)); refine Kd.R_lit kAny _ 20 ?hg (N:=40) ?hd (xs := ([anyB (decide ((a2.size : Int) > 600)),anyI 8,anyB (a0_1 == 1000000000),anyI 7] : List AnyV)) (inner := [.iface 4 (.bool (decide ((a2.size : Int) > 600))),.iface 3 (.int .i64 8),.iface 4 (.bool (a0_1 == 1000000000)),.iface 3 (.int .i64 7)]) (ok := fun _ => True) (okp := fun _ => True) ?hr ?hp (fun _ hk => hk) trivial (Below.refl _ _) (Nat.le_refl _) (by simp) ?_; (case hd => rfl); (case hg => rfl); (case hr => first | (go_simp; done) | (go_simp; rfl)); (case hp => exact (Reps.one (show Kd.M kAny _ _ _ (anyB (decide ((a2.size : Int) > 600))) [.iface 4 (.bool (decide ((a2.size : Int) > 600)))] from rfl) (Reps.one (show Kd.M kAny _ _ _ (anyI 8) [.iface 3 (.int .i64 8)] from rfl) (Reps.one (show Kd.M kAny _ _ _ (anyB (a0_1 == 1000000000)) [.iface 4 (.bool (a0_1 == 1000000000))] from rfl) (Reps.one (show Kd.M kAny _ _ _ (anyI 7) [.iface 3 (.int .i64 7)] from rfl) (Reps.none _ _)))))); intro v319 w15 ho16 hb hg_ hnew_; clear hg_ hnew_; (first | rw [← Ny318.out] at ho16 | (simp only [Int.reduceToNat] at ho16; rw [← Ny318.out] at ho16)); have n0_ := Aside0.mk (Kd.V_elder' (by (with_reducible repeat (first | apply Kd.V_alloc | apply Kd.V_drewN | apply Kd.V_drew)); exact HO0_0.out) (Kd.R_base ho16) hb); have n1_ := Aside0.mk (Kd.R_lower (Kd.R_newM (M:=fun k_ => (w.heap.size ≤ k_)) ho16 (below_size bA) (fun k_ h_ => h_)) (below_size bA)); have n2_ := Aside0.mk (blk_below (g:=gb314) (o:=.cells #[.slice A0_0 l0_0.length c0_0,.int .i64 a0_1] 28 (0,0)) (kA BK314.out) hb); have n3_ := Aside0.mk (blk_below (g:=gb315) (o:=.cells #[.slice none 0 0,.int .i64 0] 28 (0,0)) (kA BK315.out) hb); have n4_ := Aside0.mk (below_step bA hb); clear HO0_0; clear BK314; clear BK315; clear HB; have HO0_0 := n0_; have HO320 := n1_; have BK314 := n2_; have BK315 := n3_; have HB := n4_; clear n0_ n1_ n2_ n3_ n4_; clear hb ho16; obtain ⟨Ao17,co17,eo17⟩ := Kd.R_slice HO320.out; subst eo17) | ((with_reducible refine gate_callee (f:=28) rfl ?_); refine goesL_ (some 41) rfl rfl Try.func28 (by kernel_rfl) rfl #[.slice Ao17 y318.length co17] rfl mA ?_; (with_reducible refine (impl_first.calls k _ _ y318 t321 _ ?side1 ?side2 A12.out).mono ?_); (case side1 => repeat (first | exact (Kd.R_reads' HO320.out).2.2 | (with_reducible refine Kd.C_alloc ?_ _) | (with_reducible refine Kd.C_drewN ?_ _) | (with_reducible refine Kd.C_drew ?_))); (case side2 => exact (Kd.R_reads' HO320.out).2.1); rintro e w' ⟨rfl,⟨nd,rfl⟩⟩; refine ⟨_,rfl,?_⟩))
   go_meet
   case rel => exact ⟨_,(t321),(by first | rfl | (simp; done) | (simp [*]; done)),H',⟨by first | omega | exact Nat.le_refl _⟩,⟨by (with_reducible repeat (first | apply Kd.V_alloc | apply Kd.V_drewN | apply Kd.V_drew)); exact Kd.V_mono HO0_0.out (fun _ hk => ⟨hk.1.1.1,⟨hk.1.1.2,hk.1.2⟩⟩)⟩,⟨kA BK314.out⟩,⟨kA BK315.out⟩,⟨bA⟩⟩
  ·replace c11 := Bool.eq_false_iff.mpr c11
   subst c11
   rw [if_neg (show ¬ (false = true) by decide)] at H
   by_cases c18 : (l0_0.length : Int) = 300
   ·rw [if_pos c18] at H
    have c18b0 : ((l0_0.length : Int) == 300) = true := beq_iff_eq.mpr c18
    have c18b1 : ((l0_0.length : Int) != 300) = false := bne_eq_false_iff_eq.mpr c18
    clear c18
    (first | rw [c18b0] | (simp only [i64_w,i32_w]; rw [c18b0]) | skip)
    obtain ⟨y322,hy322⟩ : ∃ y_ : List AnyV,y_ = (([anyB (decide ((a2.size : Int) > 600)),anyI 8,anyB true,anyI 7] : List AnyV)) := ⟨_,rfl⟩
    replace H : ((impl_first.f k y322).bind fun t325 => (impl_Store_put.j0 k a1 a2 t316 false t325 l0_0 a0_1)) = some (r1,r2,r3,r4) := by first | (rw [hy322]; with_reducible exact H) | (have H2_ := (Option.bind_some _ _).symm.trans H; rw [hy322]; with_reducible exact H2_) | (have H2_ := (Option.bind_some _ _).symm.trans H; with_reducible exact H2_) | with_reducible exact H | (rw [hy322]; exact H) | exact H
    have Ny322 := Aside0.mk hy322
    clear hy322
    replace H := Option.bind_eq_some_iff.mp H
    obtain ⟨t325,A190,H⟩ := H
    try dsimp only at H
    have A19 := Aside0.mk A190
    clear A190
    have H' := Aside0.mk H
    clear H
    have hnb20 := NB314_315.out
    have hnc20 := NB315_314.out
    have hcz21_0 : w10.cell? ⟨gb314,0,none⟩ = some (.slice A0_0 l0_0.length c0_0) := (blk_cell BK314.out 0).trans rfl
    have hcz21_1 : w10.cell? ⟨gb314,1,none⟩ = some (.int .i64 a0_1) := (blk_cell BK314.out 1).trans rfl
    have hfz21_0 := blk_frozen BK314.out 0
    have hfz21_1 := blk_frozen BK314.out 1
    go_wp2_with (first | ((with_reducible refine gate_dst (N:=40) rfl ?_); (try (refine gate_guard (by rfl) ?_; dsimp only)); refine Kd.R_lit kAny _ 20 ?hg (N:=40) ?hd (xs := ([anyB (decide ((a2.size : Int) > 600)),anyI 8,anyB true,anyI 7] : List AnyV)) (inner := [.iface 4 (.bool (decide ((a2.size : Int) > 600))),.iface 3 (.int .i64 8),.iface 4 (.bool true),.iface 3 (.int .i64 7)]) (ok := fun _ => True) (okp := fun _ => True) ?hr ?hp (fun _ hk => hk) trivial (Below.refl _ _) (Nat.le_refl _) (by simp) ?_; (case hd => rfl); (case hg => rfl); (case hr => first | (go_simp; done) | (go_simp; rfl)); (case hp => exact (Reps.one (show Kd.M kAny _ _ _ (anyB (decide ((a2.size : Int) > 600))) [.iface 4 (.bool (decide ((a2.size : Int) > 600)))] from rfl) (Reps.one (show Kd.M kAny _ _ _ (anyI 8) [.iface 3 (.int .i64 8)] from rfl) (Reps.one (show Kd.M kAny _ _ _ (anyB true) [.iface 4 (.bool true)] from rfl) (Reps.one (show Kd.M kAny _ _ _ (anyI 7) [.iface 3 (.int .i64 7)] from rfl) (Reps.none _ _)))))); intro v323 w22 ho23 hb hg_ hnew_; clear hg_ hnew_; (first | rw [← Ny322.out] at ho23 | (simp only [Int.reduceToNat] at ho23; rw [← Ny322.out] at ho23)); have n0_ := Aside0.mk (Kd.V_elder' (by (with_reducible repeat (first | apply Kd.V_alloc | apply Kd.V_drewN | apply Kd.V_drew)); exact HO0_0.out) (Kd.R_base ho23) hb); have n1_ := Aside0.mk (Kd.R_lower (Kd.R_newM (M:=fun k_ => (w.heap.size ≤ k_)) ho23 (below_size bA) (fun k_ h_ => h_)) (below_size bA)); have n2_ := Aside0.mk (blk_below (g:=gb314) (o:=.cells #[.slice A0_0 l0_0.length c0_0,.int .i64 a0_1] 28 (0,0)) (kA BK314.out) hb); have n3_ := Aside0.mk (blk_below (g:=gb315) (o:=.cells #[.slice none 0 0,.int .i64 0] 28 (0,0)) (kA BK315.out) hb); have n4_ := Aside0.mk (below_step bA hb); clear HO0_0; clear BK314; clear BK315; clear HB; have HO0_0 := n0_; have HO324 := n1_; have BK314 := n2_; have BK315 := n3_; have HB := n4_; clear n0_ n1_ n2_ n3_ n4_; clear hb ho23; obtain ⟨Ao24,co24,eo24⟩ := Kd.R_slice HO324.out; subst eo24) | ((with_reducible refine gate_callee (f:=28) rfl ?_); refine goesL_ (some 41) rfl rfl Try.func28 (by kernel_rfl) rfl #[.slice Ao24 y322.length co24] rfl mA ?_; (with_reducible refine (impl_first.calls k _ _ y322 t325 _ ?side1 ?side2 A19.out).mono ?_); (case side1 => repeat (first | exact (Kd.R_reads' HO324.out).2.2 | (with_reducible refine Kd.C_alloc ?_ _) | (with_reducible refine Kd.C_drewN ?_ _) | (with_reducible refine Kd.C_drew ?_))); (case side2 => exact (Kd.R_reads' HO324.out).2.1); rintro e w' ⟨rfl,⟨nd,rfl⟩⟩; refine ⟨_,rfl,?_⟩))
    go_meet
    case rel => exact ⟨_,(t325),(by first | rfl | (simp; done) | (simp [*]; done)),H',⟨by first | omega | exact Nat.le_refl _⟩,⟨by (with_reducible repeat (first | apply Kd.V_alloc | apply Kd.V_drewN | apply Kd.V_drew)); exact Kd.V_mono HO0_0.out (fun _ hk => ⟨hk.1.1.1,⟨hk.1.1.2,hk.1.2⟩⟩)⟩,⟨kA BK314.out⟩,⟨kA BK315.out⟩,⟨bA⟩⟩
   ·rw [if_neg c18] at H
    have c18b0 : ((l0_0.length : Int) == 300) = false := beq_eq_false_iff_ne.mpr c18
    have c18b1 : ((l0_0.length : Int) != 300) = true := bne_iff_ne.mpr c18
    (first | rw [c18b0] | (simp only [i64_w,i32_w]; rw [c18b0]) | skip)
    obtain ⟨y326,hy326⟩ : ∃ y_ : List AnyV,y_ = (([anyB (decide ((a2.size : Int) > 600)),anyI 8,anyB (a0_1 == 1000000000),anyI 7] : List AnyV)) := ⟨_,rfl⟩
    replace H : ((impl_first.f k y326).bind fun t329 => (impl_Store_put.j0 k a1 a2 t316 false t329 l0_0 a0_1)) = some (r1,r2,r3,r4) := by first | (rw [hy326]; with_reducible exact H) | (have H2_ := (Option.bind_some _ _).symm.trans H; rw [hy326]; with_reducible exact H2_) | (have H2_ := (Option.bind_some _ _).symm.trans H; with_reducible exact H2_) | with_reducible exact H | (rw [hy326]; exact H) | exact H
    have Ny326 := Aside0.mk hy326
    clear hy326
    replace H := Option.bind_eq_some_iff.mp H
    obtain ⟨t329,A250,H⟩ := H
    try dsimp only at H
    have A25 := Aside0.mk A250
    clear A250
    have H' := Aside0.mk H
    clear H
    have hnb26 := NB314_315.out
    have hnc26 := NB315_314.out
    have hcz27_0 : w10.cell? ⟨gb314,0,none⟩ = some (.slice A0_0 l0_0.length c0_0) := (blk_cell BK314.out 0).trans rfl
    have hcz27_1 : w10.cell? ⟨gb314,1,none⟩ = some (.int .i64 a0_1) := (blk_cell BK314.out 1).trans rfl
    have hfz27_0 := blk_frozen BK314.out 0
    have hfz27_1 := blk_frozen BK314.out 1
    go_wp2_with (first | ((with_reducible refine gate_dst (N:=40) rfl ?_); (try (refine gate_guard (by rfl) ?_; dsimp only)); refine Kd.R_lit kAny _ 20 ?hg (N:=40) ?hd (xs := ([anyB (decide ((a2.size : Int) > 600)),anyI 8,anyB (a0_1 == 1000000000),anyI 7] : List AnyV)) (inner := [.iface 4 (.bool (decide ((a2.size : Int) > 600))),.iface 3 (.int .i64 8),.iface 4 (.bool (a0_1 == 1000000000)),.iface 3 (.int .i64 7)]) (ok := fun _ => True) (okp := fun _ => True) ?hr ?hp (fun _ hk => hk) trivial (Below.refl _ _) (Nat.le_refl _) (by simp) ?_; (case hd => rfl); (case hg => rfl); (case hr => first | (go_simp; done) | (go_simp; rfl)); (case hp => exact (Reps.one (show Kd.M kAny _ _ _ (anyB (decide ((a2.size : Int) > 600))) [.iface 4 (.bool (decide ((a2.size : Int) > 600)))] from rfl) (Reps.one (show Kd.M kAny _ _ _ (anyI 8) [.iface 3 (.int .i64 8)] from rfl) (Reps.one (show Kd.M kAny _ _ _ (anyB (a0_1 == 1000000000)) [.iface 4 (.bool (a0_1 == 1000000000))] from rfl) (Reps.one (show Kd.M kAny _ _ _ (anyI 7) [.iface 3 (.int .i64 7)] from rfl) (Reps.none _ _)))))); intro v327 w28 ho29 hb hg_ hnew_; clear hg_ hnew_; (first | rw [← Ny326.out] at ho29 | (simp only [Int.reduceToNat] at ho29; rw [← Ny326.out] at ho29)); have n0_ := Aside0.mk (Kd.V_elder' (by (with_reducible repeat (first | apply Kd.V_alloc | apply Kd.V_drewN | apply Kd.V_drew)); exact HO0_0.out) (Kd.R_base ho29) hb); have n1_ := Aside0.mk (Kd.R_lower (Kd.R_newM (M:=fun k_ => (w.heap.size ≤ k_)) ho29 (below_size bA) (fun k_ h_ => h_)) (below_size bA)); have n2_ := Aside0.mk (blk_below (g:=gb314) (o:=.cells #[.slice A0_0 l0_0.length c0_0,.int .i64 a0_1] 28 (0,0)) (kA BK314.out) hb); have n3_ := Aside0.mk (blk_below (g:=gb315) (o:=.cells #[.slice none 0 0,.int .i64 0] 28 (0,0)) (kA BK315.out) hb); have n4_ := Aside0.mk (below_step bA hb); clear HO0_0; clear BK314; clear BK315; clear HB; have HO0_0 := n0_; have HO328 := n1_; have BK314 := n2_; have BK315 := n3_; have HB := n4_; clear n0_ n1_ n2_ n3_ n4_; clear hb ho29; obtain ⟨Ao30,co30,eo30⟩ := Kd.R_slice HO328.out; subst eo30) | ((with_reducible refine gate_callee (f:=28) rfl ?_); refine goesL_ (some 41) rfl rfl Try.func28 (by kernel_rfl) rfl #[.slice Ao30 y326.length co30] rfl mA ?_; (with_reducible refine (impl_first.calls k _ _ y326 t329 _ ?side1 ?side2 A25.out).mono ?_); (case side1 => repeat (first | exact (Kd.R_reads' HO328.out).2.2 | (with_reducible refine Kd.C_alloc ?_ _) | (with_reducible refine Kd.C_drewN ?_ _) | (with_reducible refine Kd.C_drew ?_))); (case side2 => exact (Kd.R_reads' HO328.out).2.1); rintro e w' ⟨rfl,⟨nd,rfl⟩⟩; refine ⟨_,rfl,?_⟩))
    go_meet
    case rel => exact ⟨_,(t329),(by first | rfl | (simp; done) | (simp [*]; done)),H',⟨by first | omega | exact Nat.le_refl _⟩,⟨by (with_reducible repeat (first | apply Kd.V_alloc | apply Kd.V_drewN | apply Kd.V_drew)); exact Kd.V_mono HO0_0.out (fun _ hk => ⟨hk.1.1.1,⟨hk.1.1.2,hk.1.2⟩⟩)⟩,⟨kA BK314.out⟩,⟨kA BK315.out⟩,⟨bA⟩⟩
 case rest =>
  clear HC5
  try clear c1
  try clear c2
  try clear p2
  try clear c5
  try clear c8
  try clear c11
  try clear c13
  try clear c18
  try clear c18b0
  try clear c18b1
  try clear c20
  try clear c26
  try clear c28
  try clear hcz14_0
  try clear hcz14_1
  try clear hcz21_0
  try clear hcz21_1
  try clear hcz27_0
  try clear hcz27_1
  try clear hcz9_0
  try clear hcz9_1
  try clear hfz14_0
  try clear hfz14_1
  try clear hfz21_0
  try clear hfz21_1
  try clear hfz27_0
  try clear hfz27_1
  try clear hfz9_0
  try clear hfz9_1
  obtain ⟨kq,x11_4,rfl,HA,HJ4,HO_315000,BK314,BK315,HB⟩ := hcut
  cases kq with
  | zero => exact absurd HA.out (by simp [impl_Store_put.j0])
  | succ kj4 =>
   have H := HA.out
   clear HA
   simp only [impl_Store_put.j0] at H
   by_cases c31 : x11_4 = 0
   ·rw [if_pos c31] at H
    have c31b0 : (x11_4 == 0) = true := beq_iff_eq.mpr c31
    have c31b1 : (x11_4 != 0) = false := bne_eq_false_iff_eq.mpr c31
    clear c31
    replace H := Option.bind_eq_some_iff.mp H
    obtain ⟨⟨t330,t333⟩,A320,H⟩ := H
    try dsimp only at H
    have A32 := Aside0.mk A320
    clear A320
    by_cases c33 : t317 = true
    ·subst c33
     rw [if_pos rfl] at H
     by_cases c34 : 0 ≤ t316
     ·rw [if_pos c34] at H
      have c34b0 : decide (0 ≤ t316) = true := decide_eq_true c34
      clear c34
      by_cases c35 : t316 < (t330.length : Int)
      ·rw [if_pos c35] at H
       have c35b0 : decide (t316 < (t330.length : Int)) = true := decide_eq_true c35
       clear c35
       obtain ⟨y336,hy336⟩ : ∃ y_ : List (S71),y_ = (t330.set (t316 : Int).toNat (⟨a1,a0_1,a2⟩ : S71)) := ⟨_,rfl⟩
       replace H : (some (y336,wrap64 (t333 + 1),a0_1,0)) = some (r1,r2,r3,r4) := by first | (rw [hy336]; with_reducible exact H) | (have H2_ := (Option.bind_some _ _).symm.trans H; rw [hy336]; with_reducible exact H2_) | (have H2_ := (Option.bind_some _ _).symm.trans H; with_reducible exact H2_) | with_reducible exact H | (rw [hy336]; exact H) | exact H
       have Ny336 := Aside0.mk hy336
       clear hy336
       simp only [Option.some.injEq,Prod.mk.injEq] at H
       obtain ⟨rfl,rfl,rfl,rfl⟩ := H
       try go_wp2
       have n0_ := Aside0.mk (Kd.V_drew HO_315000.out)
       have n1_ := Aside0.mk (blk_drew BK314.out)
       have n2_ := Aside0.mk (blk_drew BK315.out)
       have n3_ := Aside0.mk (below_drew1 HB.out)
       clear HO_315000
       clear BK314
       clear BK315
       clear HB
       have HO_315000 := n0_
       have BK314 := n1_
       have BK315 := n2_
       have HB := n3_
       clear n0_ n1_ n2_ n3_
       refine start_ (n:=11) (S:=fun w' => w'.cell? ⟨gb314,0,none⟩ = some (.slice A0_0 l0_0.length c0_0) ∧ w'.cell? ⟨gb314,1,none⟩ = some (.int .i64 a0_1)) (ds := []) (bm 11 0) (by kernel_rfl) rfl rfl ⟨(blk_cell BK314.out 0).trans rfl,(blk_cell BK314.out 1).trans rfl⟩ (fun hHeld => ?_); refine with_tabW impl_Store_put.tab5 impl_Store_put.bits5 (fun HT_ HW_ => ?_)
       generalize wc.drew = w37 at HO_315000 BK314 BK315 HB hHeld ⊢
       refine pV_ 2 48 (bm 11 4) HT_.out ?_
       refine pV_ 3 49 (bm 11 12) HT_.out ?_
       refine pV_ 5 51 (bm 11 44) HT_.out ?_
       refine take_ (i:=0) (N:=some 46) (v:=?_) (a':=?_) (bm 11 45) rfl rfl (take_ofW HT_.out HW_.out (by kernel_rfl)) (fun _ _ _ h => h) (Or.inl ⟨by rfl,?_⟩) hHeld ?_ ?_
       rotate_left
       ·rintro w' ⟨s0,s1⟩
        go_simp
        with_reducible rfl
       rotate_left
       ·simp only [Act.put,setIfInBounds_toArray,set_cons_zero,set_cons_succ,i64_w,i32_w]
        rfl
       refine take_ (i:=4) (N:=some 50) (v:=?_) (a':=?_) (bm 11 61) rfl rfl (take_ofW HT_.out HW_.out (by kernel_rfl)) (fun _ _ _ h => h) (Or.inl ⟨by rfl,?_⟩) hHeld ?_ ?_
       rotate_left
       ·rintro w' ⟨s0,s1⟩
        go_simp
        with_reducible rfl
       rotate_left
       ·simp only [Act.put,setIfInBounds_toArray,set_cons_zero,set_cons_succ,i64_w,i32_w]
        rfl
       refine pV_ 6 52 (bm 11 125) HT_.out ?_
       refine join_ (σ := Value × Nat × Nat) 2 (bm 11 511) (fun s_ => [(47,.agg #[s_.1,.int .i64 t333]),(12,.pointer (some ⟨s_.2.1,0,none⟩)),(13,.pointer (some ⟨s_.2.2,0,none⟩))]) (fun s_ w' => (w'.cell? ⟨gb314,0,none⟩ = some (.slice A0_0 l0_0.length c0_0) ∧ w'.cell? ⟨gb314,1,none⟩ = some (.int .i64 a0_1)) ∧ (Kd.R k71 71 w' w.heap.size (fun k_ => (w.heap.size ≤ k_) ∧ k_ ≠ s_.2.2) s_.1 t330) ∧ (Kd.V k71 71 w' w.heap.size (fun k_ => (P0_0_ k_ ∨ w.heap.size ≤ k_) ∧ some k_ ≠ (s_.1 : Value).ownBlock ∧ k_ ≠ gb314 ∧ k_ ≠ gb315 ∧ k_ ≠ s_.2.1 ∧ k_ ≠ s_.2.2) (.slice A0_0 l0_0.length c0_0) l0_0) ∧ (w'.heap[gb314]? = some (.cells #[.slice A0_0 l0_0.length c0_0,.int .i64 a0_1] 28 (0,0))) ∧ (w'.heap[gb315]? = some (.cells #[.slice none 0 0,.int .i64 0] 28 (0,0))) ∧ (w'.heap[s_.2.1]? = some (.cells #[.slice none 0 0,.int .i64 0] 28 (0,0))) ∧ (w'.heap[s_.2.2]? = some (.cells #[.string (⟨#[]⟩ : ByteArray),.int .i64 0,.string (⟨#[]⟩ : ByteArray)] 71 (0,0))) ∧ (w.heap.size ≤ s_.2.1) ∧ (w.heap.size ≤ s_.2.1) ∧ (gb314 ≠ s_.2.1) ∧ (s_.2.1 ≠ gb314) ∧ (gb315 ≠ s_.2.1) ∧ (s_.2.1 ≠ gb315) ∧ (s_.2.2 ≠ s_.2.1) ∧ (s_.2.1 ≠ s_.2.2) ∧ (w.heap.size ≤ s_.2.2) ∧ (w.heap.size ≤ s_.2.2) ∧ (gb314 ≠ s_.2.2) ∧ (s_.2.2 ≠ gb314) ∧ (gb315 ≠ s_.2.2) ∧ (s_.2.2 ≠ gb315) ∧ (Below w.heap.size w w')) ?_ ?_
       rotate_left
       ·intro hJ1_7_8
        refine join_ (σ := Value × Nat) 3 (bm 11 255) (fun s_ => [(47,.agg #[s_.1,.int .i64 t333]),(12,.pointer (some ⟨s_.2,0,none⟩))]) (fun s_ w' => (w'.cell? ⟨gb314,0,none⟩ = some (.slice A0_0 l0_0.length c0_0) ∧ w'.cell? ⟨gb314,1,none⟩ = some (.int .i64 a0_1)) ∧ (Kd.R k71 71 w' w.heap.size (fun k_ => (w.heap.size ≤ k_)) s_.1 t330) ∧ (Kd.V k71 71 w' w.heap.size (fun k_ => (P0_0_ k_ ∨ w.heap.size ≤ k_) ∧ some k_ ≠ (s_.1 : Value).ownBlock ∧ k_ ≠ gb314 ∧ k_ ≠ gb315 ∧ k_ ≠ s_.2) (.slice A0_0 l0_0.length c0_0) l0_0) ∧ (w'.heap[gb314]? = some (.cells #[.slice A0_0 l0_0.length c0_0,.int .i64 a0_1] 28 (0,0))) ∧ (w'.heap[gb315]? = some (.cells #[.slice none 0 0,.int .i64 0] 28 (0,0))) ∧ (w'.heap[s_.2]? = some (.cells #[.slice none 0 0,.int .i64 0] 28 (0,0))) ∧ (w.heap.size ≤ s_.2) ∧ (w.heap.size ≤ s_.2) ∧ (gb314 ≠ s_.2) ∧ (s_.2 ≠ gb314) ∧ (gb315 ≠ s_.2) ∧ (s_.2 ≠ gb315) ∧ (Below w.heap.size w w')) ?_ ?_
        rotate_left
        ·intro hJ1_7
         refine join_ (σ := Value × Nat) 3 (bm 11 383) (fun s_ => [(47,.agg #[s_.1,.int .i64 t333]),(13,.pointer (some ⟨s_.2,0,none⟩))]) (fun s_ w' => (w'.cell? ⟨gb314,0,none⟩ = some (.slice A0_0 l0_0.length c0_0) ∧ w'.cell? ⟨gb314,1,none⟩ = some (.int .i64 a0_1)) ∧ (Kd.R k71 71 w' w.heap.size (fun k_ => (w.heap.size ≤ k_) ∧ k_ ≠ s_.2) s_.1 t330) ∧ (Kd.V k71 71 w' w.heap.size (fun k_ => (P0_0_ k_ ∨ w.heap.size ≤ k_) ∧ some k_ ≠ (s_.1 : Value).ownBlock ∧ k_ ≠ gb314 ∧ k_ ≠ gb315 ∧ k_ ≠ s_.2) (.slice A0_0 l0_0.length c0_0) l0_0) ∧ (w'.heap[gb314]? = some (.cells #[.slice A0_0 l0_0.length c0_0,.int .i64 a0_1] 28 (0,0))) ∧ (w'.heap[gb315]? = some (.cells #[.slice none 0 0,.int .i64 0] 28 (0,0))) ∧ (w'.heap[s_.2]? = some (.cells #[.string (⟨#[]⟩ : ByteArray),.int .i64 0,.string (⟨#[]⟩ : ByteArray)] 71 (0,0))) ∧ (w.heap.size ≤ s_.2) ∧ (w.heap.size ≤ s_.2) ∧ (gb314 ≠ s_.2) ∧ (s_.2 ≠ gb314) ∧ (gb315 ≠ s_.2) ∧ (s_.2 ≠ gb315) ∧ (Below w.heap.size w w')) ?_ ?_
         rotate_left
         ·intro hJ1_8
          refine join_ (σ := Nat × Nat) 3 (bm 11 509) (fun s_ => [(12,.pointer (some ⟨s_.1,0,none⟩)),(13,.pointer (some ⟨s_.2,0,none⟩))]) (fun s_ w' => (w'.cell? ⟨gb314,0,none⟩ = some (.slice A0_0 l0_0.length c0_0) ∧ w'.cell? ⟨gb314,1,none⟩ = some (.int .i64 a0_1)) ∧ (Kd.V k71 71 w' w.heap.size (fun k_ => (P0_0_ k_ ∨ w.heap.size ≤ k_) ∧ k_ ≠ gb314 ∧ k_ ≠ gb315 ∧ k_ ≠ s_.1 ∧ k_ ≠ s_.2) (.slice A0_0 l0_0.length c0_0) l0_0) ∧ (w'.heap[gb314]? = some (.cells #[.slice A0_0 l0_0.length c0_0,.int .i64 a0_1] 28 (0,0))) ∧ (w'.heap[gb315]? = some (.cells #[.slice none 0 0,.int .i64 0] 28 (0,0))) ∧ (w'.heap[s_.1]? = some (.cells #[.slice none 0 0,.int .i64 0] 28 (0,0))) ∧ (w'.heap[s_.2]? = some (.cells #[.string (⟨#[]⟩ : ByteArray),.int .i64 0,.string (⟨#[]⟩ : ByteArray)] 71 (0,0))) ∧ (w.heap.size ≤ s_.1) ∧ (w.heap.size ≤ s_.1) ∧ (gb314 ≠ s_.1) ∧ (s_.1 ≠ gb314) ∧ (gb315 ≠ s_.1) ∧ (s_.1 ≠ gb315) ∧ (s_.2 ≠ s_.1) ∧ (s_.1 ≠ s_.2) ∧ (w.heap.size ≤ s_.2) ∧ (w.heap.size ≤ s_.2) ∧ (gb314 ≠ s_.2) ∧ (s_.2 ≠ gb314) ∧ (gb315 ≠ s_.2) ∧ (s_.2 ≠ gb315) ∧ (Below w.heap.size w w')) ?_ ?_
          rotate_left
          ·intro hJ7_8
           refine join_ (σ := Value) 4 (bm 11 127) (fun s_ => [(47,.agg #[s_,.int .i64 t333])]) (fun s_ w' => (w'.cell? ⟨gb314,0,none⟩ = some (.slice A0_0 l0_0.length c0_0) ∧ w'.cell? ⟨gb314,1,none⟩ = some (.int .i64 a0_1)) ∧ (Kd.R k71 71 w' w.heap.size (fun k_ => (w.heap.size ≤ k_)) s_ t330) ∧ (Kd.V k71 71 w' w.heap.size (fun k_ => (P0_0_ k_ ∨ w.heap.size ≤ k_) ∧ some k_ ≠ (s_ : Value).ownBlock ∧ k_ ≠ gb314 ∧ k_ ≠ gb315) (.slice A0_0 l0_0.length c0_0) l0_0) ∧ (w'.heap[gb314]? = some (.cells #[.slice A0_0 l0_0.length c0_0,.int .i64 a0_1] 28 (0,0))) ∧ (w'.heap[gb315]? = some (.cells #[.slice none 0 0,.int .i64 0] 28 (0,0))) ∧ (Below w.heap.size w w')) ?_ ?_
           rotate_left
           ·intro hJ1
            refine join_ (σ := Nat) 4 (bm 11 253) (fun s_ => [(12,.pointer (some ⟨s_,0,none⟩))]) (fun s_ w' => (w'.cell? ⟨gb314,0,none⟩ = some (.slice A0_0 l0_0.length c0_0) ∧ w'.cell? ⟨gb314,1,none⟩ = some (.int .i64 a0_1)) ∧ (Kd.V k71 71 w' w.heap.size (fun k_ => (P0_0_ k_ ∨ w.heap.size ≤ k_) ∧ k_ ≠ gb314 ∧ k_ ≠ gb315 ∧ k_ ≠ s_) (.slice A0_0 l0_0.length c0_0) l0_0) ∧ (w'.heap[gb314]? = some (.cells #[.slice A0_0 l0_0.length c0_0,.int .i64 a0_1] 28 (0,0))) ∧ (w'.heap[gb315]? = some (.cells #[.slice none 0 0,.int .i64 0] 28 (0,0))) ∧ (w'.heap[s_]? = some (.cells #[.slice none 0 0,.int .i64 0] 28 (0,0))) ∧ (w.heap.size ≤ s_) ∧ (w.heap.size ≤ s_) ∧ (gb314 ≠ s_) ∧ (s_ ≠ gb314) ∧ (gb315 ≠ s_) ∧ (s_ ≠ gb315) ∧ (Below w.heap.size w w')) ?_ ?_
            rotate_left
            ·intro hJ7
             refine join_ (σ := Nat) 4 (bm 11 381) (fun s_ => [(13,.pointer (some ⟨s_,0,none⟩))]) (fun s_ w' => (w'.cell? ⟨gb314,0,none⟩ = some (.slice A0_0 l0_0.length c0_0) ∧ w'.cell? ⟨gb314,1,none⟩ = some (.int .i64 a0_1)) ∧ (Kd.V k71 71 w' w.heap.size (fun k_ => (P0_0_ k_ ∨ w.heap.size ≤ k_) ∧ k_ ≠ gb314 ∧ k_ ≠ gb315 ∧ k_ ≠ s_) (.slice A0_0 l0_0.length c0_0) l0_0) ∧ (w'.heap[gb314]? = some (.cells #[.slice A0_0 l0_0.length c0_0,.int .i64 a0_1] 28 (0,0))) ∧ (w'.heap[gb315]? = some (.cells #[.slice none 0 0,.int .i64 0] 28 (0,0))) ∧ (w'.heap[s_]? = some (.cells #[.string (⟨#[]⟩ : ByteArray),.int .i64 0,.string (⟨#[]⟩ : ByteArray)] 71 (0,0))) ∧ (w.heap.size ≤ s_) ∧ (w.heap.size ≤ s_) ∧ (gb314 ≠ s_) ∧ (s_ ≠ gb314) ∧ (gb315 ≠ s_) ∧ (s_ ≠ gb315) ∧ (Below w.heap.size w w')) ?_ ?_
             rotate_left
             ·intro hJ8
              refine three_ (i:=1) (j:=7) (k:=8) (Ni := some 47) (Nj := some 12) (Nk := some 13) (bm 11 127) (bm 11 253) (bm 11 381) rfl rfl rfl rfl rfl rfl (three_of HT_.out (by kernel_rfl)) (by decide) (by decide) (by decide) (fun K hK => ?_) (fun K hK => ?_) (fun K hK => ?_)
              ·skip
               refine goes_ Try.func32 (by kernel_rfl) rfl #[.agg #[.slice A0_0 l0_0.length c0_0,.int .i64 a0_1]] (by rfl) rfl rfl mA ?_
               with_reducible refine (impl_Store_copied.calls _ _ l0_0 a0_1 t330 t333 _ ?side1 ?side2 A32.out).mono ?_
               (case side1 => repeat (first | exact (Kd.V_reads' HO_315000.out).2.2 | (with_reducible refine Kd.C_alloc ?_ _) | (with_reducible refine Kd.C_drewN ?_ _) | (with_reducible refine Kd.C_drew ?_)))
               (case side2 => exact (Kd.V_reads' HO_315000.out).2.1)
               rintro e w38 ⟨v331,rfl,ho0,hb⟩
               refine ⟨_,rfl,?_⟩
               have n0_ := Aside0.mk (Kd.V_elder' (by (with_reducible repeat (first | apply Kd.V_alloc | apply Kd.V_drewN | apply Kd.V_drew)); exact HO_315000.out) (Kd.R_base ho0) hb)
               have n1_ := Aside0.mk (Kd.R_lower (Kd.R_newM (M:=fun k_ => (w.heap.size ≤ k_)) ho0 (below_size bA) (fun k_ h_ => h_)) (below_size bA))
               have n2_ := Aside0.mk (blk_below (g:=gb314) (o:=.cells #[.slice A0_0 l0_0.length c0_0,.int .i64 a0_1] 28 (0,0)) (kA BK314.out) hb)
               have n3_ := Aside0.mk (blk_below (g:=gb315) (o:=.cells #[.slice none 0 0,.int .i64 0] 28 (0,0)) (kA BK315.out) hb)
               have n4_ := Aside0.mk (below_step bA hb)
               clear HO_315000
               clear BK314
               clear BK315
               clear HB
               have HO_315000 := n0_
               have HO332 := n1_
               have BK314 := n2_
               have BK315 := n3_
               have HB := n4_
               clear n0_ n1_ n2_ n3_ n4_
               (try clear hb)
               (try clear hb2)
               (try clear hk)
               (try clear hi)
               (try clear ho0)
               refine hK.out _ _ ⟨(blk_cell BK314.out 0).trans rfl,(blk_cell BK314.out 1).trans rfl⟩ (fun hHeld => ?_)
               clear hK K
               refine norm_ (a':=?_) ?_ ?_
               rotate_left
               ·show Act.put _ (some 47) _ = _
                simp only [Act.put,setIfInBounds_toArray,set_cons_zero,set_cons_succ,i64_w,i32_w]
                rfl
               exact norm_ (by first | (simp only [putAll,Act.put,setIfInBounds_toArray,set_cons_zero,set_cons_succ]; done) | (simp only [putAll,Act.put,setIfInBounds_toArray,set_cons_zero,set_cons_succ]; rfl)) (hJ1 (v331) _ ⟨hHeld,(by (with_reducible repeat (first | apply Kd.R_alloc | apply Kd.R_drewN | apply Kd.R_drew)); exact Kd.R_mono HO332.out (fun _ hk => hk.1)),(by (with_reducible repeat (first | apply Kd.V_alloc | apply Kd.V_drewN | apply Kd.V_drew)); exact Kd.V_mono HO_315000.out (fun _ hk => ⟨hk.1.1,⟨hk.2,⟨hk.1.2.1,hk.1.2.2⟩⟩⟩)),(kA BK314.out),(kA BK315.out),bA⟩)
              ·skip
               refine box_step ?hg (N:=12) ?hd (cs := #[.slice none 0 0,.int .i64 0]) (t:=28) ?hr ?_; (case hd => rfl); (case hg => rfl); (case hr => first | (go_simp; done) | (go_simp; rfl))
               intro gb334 hg w38 hbox hb
               have n0_ := Aside0.mk (Kd.V_below (Kd.V_elderB (by (with_reducible repeat (first | apply Kd.V_alloc | apply Kd.V_drewN | apply Kd.V_drew)); exact HO_315000.out) gb334 (Nat.le_of_eq hg.symm)) hb)
               have n1_ := Aside0.mk (blk_below (g:=gb314) (o:=.cells #[.slice A0_0 l0_0.length c0_0,.int .i64 a0_1] 28 (0,0)) (kA BK314.out) hb)
               have n2_ := Aside0.mk (blk_below (g:=gb315) (o:=.cells #[.slice none 0 0,.int .i64 0] 28 (0,0)) (kA BK315.out) hb)
               have n3_ := Aside0.mk (below_step bA hb)
               have n4_ := Aside0.mk (hbox)
               have n5_ := Aside0.mk ((by rw [hg]; exact (below_size bA) : w.heap.size ≤ gb334))
               have n6_ := Aside0.mk ((by rw [hg]; exact (below_size bA) : w.heap.size ≤ gb334))
               have n7_ := Aside0.mk ((by rw [hg]; exact Nat.ne_of_lt (blk_lt (g:=gb314) (o:=.cells #[.slice A0_0 l0_0.length c0_0,.int .i64 a0_1] 28 (0,0)) (kA BK314.out)) : gb314 ≠ gb334))
               have n8_ := Aside0.mk ((by rw [hg]; exact Nat.ne_of_gt (blk_lt (g:=gb314) (o:=.cells #[.slice A0_0 l0_0.length c0_0,.int .i64 a0_1] 28 (0,0)) (kA BK314.out)) : gb334 ≠ gb314))
               have n9_ := Aside0.mk ((by rw [hg]; exact Nat.ne_of_lt (blk_lt (g:=gb315) (o:=.cells #[.slice none 0 0,.int .i64 0] 28 (0,0)) (kA BK315.out)) : gb315 ≠ gb334))
               have n10_ := Aside0.mk ((by rw [hg]; exact Nat.ne_of_gt (blk_lt (g:=gb315) (o:=.cells #[.slice none 0 0,.int .i64 0] 28 (0,0)) (kA BK315.out)) : gb334 ≠ gb315))
               clear HO_315000
               clear BK314
               clear BK315
               clear HB
               have HO_315000 := n0_
               have BK314 := n1_
               have BK315 := n2_
               have HB := n3_
               have BK334 := n4_
               have GW334 := n5_
               have GE334 := n6_
               have NB314_334 := n7_
               have NB334_314 := n8_
               have NB315_334 := n9_
               have NB334_315 := n10_
               clear n0_ n1_ n2_ n3_ n4_ n5_ n6_ n7_ n8_ n9_ n10_
               clear hb hbox hg
               refine hK.out _ _ ⟨(blk_cell BK314.out 0).trans rfl,(blk_cell BK314.out 1).trans rfl⟩ (fun hHeld => ?_)
               clear hK K
               refine norm_ (a':=?_) ?_ ?_
               rotate_left
               ·show Act.put _ (some 12) _ = _
                simp only [Act.put,setIfInBounds_toArray,set_cons_zero,set_cons_succ,i64_w,i32_w]
                rfl
               exact norm_ (by first | (simp only [putAll,Act.put,setIfInBounds_toArray,set_cons_zero,set_cons_succ]; done) | (simp only [putAll,Act.put,setIfInBounds_toArray,set_cons_zero,set_cons_succ]; rfl)) (hJ7 (gb334) _ ⟨hHeld,(by (with_reducible repeat (first | apply Kd.V_alloc | apply Kd.V_drewN | apply Kd.V_drew)); exact Kd.V_mono HO_315000.out (fun _ hk => ⟨hk.1.1,⟨hk.1.2.1,⟨hk.1.2.2,hk.2⟩⟩⟩)),(kA BK314.out),(kA BK315.out),(kA BK334.out),GW334.out,GE334.out,NB314_334.out,NB334_314.out,NB315_334.out,NB334_315.out,bA⟩)
              ·skip
               refine box_step ?hg (N:=13) ?hd (cs := #[.string (⟨#[]⟩ : ByteArray),.int .i64 0,.string (⟨#[]⟩ : ByteArray)]) (t:=71) ?hr ?_; (case hd => rfl); (case hg => rfl); (case hr => first | (go_simp; done) | (go_simp; rfl))
               intro gb335 hg w38 hbox hb
               have n0_ := Aside0.mk (Kd.V_below (Kd.V_elderB (by (with_reducible repeat (first | apply Kd.V_alloc | apply Kd.V_drewN | apply Kd.V_drew)); exact HO_315000.out) gb335 (Nat.le_of_eq hg.symm)) hb)
               have n1_ := Aside0.mk (blk_below (g:=gb314) (o:=.cells #[.slice A0_0 l0_0.length c0_0,.int .i64 a0_1] 28 (0,0)) (kA BK314.out) hb)
               have n2_ := Aside0.mk (blk_below (g:=gb315) (o:=.cells #[.slice none 0 0,.int .i64 0] 28 (0,0)) (kA BK315.out) hb)
               have n3_ := Aside0.mk (below_step bA hb)
               have n4_ := Aside0.mk (hbox)
               have n5_ := Aside0.mk ((by rw [hg]; exact (below_size bA) : w.heap.size ≤ gb335))
               have n6_ := Aside0.mk ((by rw [hg]; exact (below_size bA) : w.heap.size ≤ gb335))
               have n7_ := Aside0.mk ((by rw [hg]; exact Nat.ne_of_lt (blk_lt (g:=gb314) (o:=.cells #[.slice A0_0 l0_0.length c0_0,.int .i64 a0_1] 28 (0,0)) (kA BK314.out)) : gb314 ≠ gb335))
               have n8_ := Aside0.mk ((by rw [hg]; exact Nat.ne_of_gt (blk_lt (g:=gb314) (o:=.cells #[.slice A0_0 l0_0.length c0_0,.int .i64 a0_1] 28 (0,0)) (kA BK314.out)) : gb335 ≠ gb314))
               have n9_ := Aside0.mk ((by rw [hg]; exact Nat.ne_of_lt (blk_lt (g:=gb315) (o:=.cells #[.slice none 0 0,.int .i64 0] 28 (0,0)) (kA BK315.out)) : gb315 ≠ gb335))
               have n10_ := Aside0.mk ((by rw [hg]; exact Nat.ne_of_gt (blk_lt (g:=gb315) (o:=.cells #[.slice none 0 0,.int .i64 0] 28 (0,0)) (kA BK315.out)) : gb335 ≠ gb315))
               clear HO_315000
               clear BK314
               clear BK315
               clear HB
               have HO_315000 := n0_
               have BK314 := n1_
               have BK315 := n2_
               have HB := n3_
               have BK335 := n4_
               have GW335 := n5_
               have GE335 := n6_
               have NB314_335 := n7_
               have NB335_314 := n8_
               have NB315_335 := n9_
               have NB335_315 := n10_
               clear n0_ n1_ n2_ n3_ n4_ n5_ n6_ n7_ n8_ n9_ n10_
               clear hb hbox hg
               refine hK.out _ _ ⟨(blk_cell BK314.out 0).trans rfl,(blk_cell BK314.out 1).trans rfl⟩ (fun hHeld => ?_)
               clear hK K
               refine norm_ (a':=?_) ?_ ?_
               rotate_left
               ·show Act.put _ (some 13) _ = _
                simp only [Act.put,setIfInBounds_toArray,set_cons_zero,set_cons_succ,i64_w,i32_w]
                rfl
               exact norm_ (by first | (simp only [putAll,Act.put,setIfInBounds_toArray,set_cons_zero,set_cons_succ]; done) | (simp only [putAll,Act.put,setIfInBounds_toArray,set_cons_zero,set_cons_succ]; rfl)) (hJ8 (gb335) _ ⟨hHeld,(by (with_reducible repeat (first | apply Kd.V_alloc | apply Kd.V_drewN | apply Kd.V_drew)); exact Kd.V_mono HO_315000.out (fun _ hk => ⟨hk.1.1,⟨hk.1.2.1,⟨hk.1.2.2,hk.2⟩⟩⟩)),(kA BK314.out),(kA BK315.out),(kA BK335.out),GW335.out,GE335.out,NB314_335.out,NB335_314.out,NB315_335.out,NB335_315.out,bA⟩)
             ·skip
              rintro gb335 w39 ⟨hS_,h0_,h1_,h2_,h3_,h4_,h5_,h6_,h7_,h8_,h9_,h10_⟩
              have n0_ : Aside0 (Kd.V k71 71 w39 w.heap.size (fun k_ => (P0_0_ k_ ∨ w.heap.size ≤ k_) ∧ k_ ≠ gb314 ∧ k_ ≠ gb315 ∧ k_ ≠ gb335) (.slice A0_0 l0_0.length c0_0) l0_0) := ⟨h0_⟩
              have n1_ : Aside0 (w39.heap[gb314]? = some (.cells #[.slice A0_0 l0_0.length c0_0,.int .i64 a0_1] 28 (0,0))) := ⟨h1_⟩
              have n2_ : Aside0 (w39.heap[gb315]? = some (.cells #[.slice none 0 0,.int .i64 0] 28 (0,0))) := ⟨h2_⟩
              have n3_ : Aside0 (w39.heap[gb335]? = some (.cells #[.string (⟨#[]⟩ : ByteArray),.int .i64 0,.string (⟨#[]⟩ : ByteArray)] 71 (0,0))) := ⟨h3_⟩
              have n4_ : Aside0 (w.heap.size ≤ gb335) := ⟨h4_⟩
              have n5_ : Aside0 (w.heap.size ≤ gb335) := ⟨h5_⟩
              have n6_ : Aside0 (gb314 ≠ gb335) := ⟨h6_⟩
              have n7_ : Aside0 (gb335 ≠ gb314) := ⟨h7_⟩
              have n8_ : Aside0 (gb315 ≠ gb335) := ⟨h8_⟩
              have n9_ : Aside0 (gb335 ≠ gb315) := ⟨h9_⟩
              have n10_ : Aside0 (Below w.heap.size w w39) := ⟨h10_⟩
              clear HO_315000
              clear BK314
              clear BK315
              clear HB
              clear h0_ h1_ h2_ h3_ h4_ h5_ h6_ h7_ h8_ h9_ h10_
              have HO_315000 := n0_
              have BK314 := n1_
              have BK315 := n2_
              have BK335 := n3_
              have GW335 := n4_
              have GE335 := n5_
              have NB314_335 := n6_
              have NB335_314 := n7_
              have NB315_335 := n8_
              have NB335_315 := n9_
              have HB := n10_
              clear n0_ n1_ n2_ n3_ n4_ n5_ n6_ n7_ n8_ n9_ n10_
              have hHeld : w39.cell? ⟨gb314,0,none⟩ = some (.slice A0_0 l0_0.length c0_0) ∧ w39.cell? ⟨gb314,1,none⟩ = some (.int .i64 a0_1) := hS_
              refine norm_ (a':=?_) ?_ ?_
              rotate_left
              ·simp only [putAll,Act.put,setIfInBounds_toArray,set_cons_zero,set_cons_succ]
               rfl
              refine two_ (i:=1) (j:=7) (Ni := some 47) (Nj := some 12) (bm 11 383) (bm 11 509) rfl rfl rfl rfl (two_of HT_.out (by kernel_rfl)) (by decide) (by decide) (fun K hK => ?_) (fun K hK => ?_)
              ·skip
               refine goes_ Try.func32 (by kernel_rfl) rfl #[.agg #[.slice A0_0 l0_0.length c0_0,.int .i64 a0_1]] (by rfl) rfl rfl mA ?_
               with_reducible refine (impl_Store_copied.calls _ _ l0_0 a0_1 t330 t333 _ ?side1 ?side2 A32.out).mono ?_
               (case side1 => repeat (first | exact (Kd.V_reads' HO_315000.out).2.2 | (with_reducible refine Kd.C_alloc ?_ _) | (with_reducible refine Kd.C_drewN ?_ _) | (with_reducible refine Kd.C_drew ?_)))
               (case side2 => exact (Kd.V_reads' HO_315000.out).2.1)
               rintro e w40 ⟨v331,rfl,ho0,hb⟩
               refine ⟨_,rfl,?_⟩
               have n0_ := Aside0.mk (Kd.V_elder' (by (with_reducible repeat (first | apply Kd.V_alloc | apply Kd.V_drewN | apply Kd.V_drew)); exact HO_315000.out) (Kd.R_base ho0) hb)
               have n1_ := Aside0.mk (Kd.R_lower (Kd.R_newB (Kd.R_newM (M:=fun k_ => (w.heap.size ≤ k_)) ho0 (below_size bA) (fun k_ h_ => h_)) (g:=gb335) (o:=.cells #[.string (⟨#[]⟩ : ByteArray),.int .i64 0,.string (⟨#[]⟩ : ByteArray)] 71 (0,0)) (kA BK335.out)) (below_size bA))
               have n2_ := Aside0.mk (blk_below (g:=gb314) (o:=.cells #[.slice A0_0 l0_0.length c0_0,.int .i64 a0_1] 28 (0,0)) (kA BK314.out) hb)
               have n3_ := Aside0.mk (blk_below (g:=gb315) (o:=.cells #[.slice none 0 0,.int .i64 0] 28 (0,0)) (kA BK315.out) hb)
               have n4_ := Aside0.mk (blk_below (g:=gb335) (o:=.cells #[.string (⟨#[]⟩ : ByteArray),.int .i64 0,.string (⟨#[]⟩ : ByteArray)] 71 (0,0)) (kA BK335.out) hb)
               have n5_ := Aside0.mk (below_step bA hb)
               clear HO_315000
               clear BK314
               clear BK315
               clear BK335
               clear HB
               have HO_315000 := n0_
               have HO332 := n1_
               have BK314 := n2_
               have BK315 := n3_
               have BK335 := n4_
               have HB := n5_
               clear n0_ n1_ n2_ n3_ n4_ n5_
               (try clear hb)
               (try clear hb2)
               (try clear hk)
               (try clear hi)
               (try clear ho0)
               refine hK.out _ _ ⟨(blk_cell BK314.out 0).trans rfl,(blk_cell BK314.out 1).trans rfl⟩ (fun hHeld => ?_)
               clear hK K
               refine norm_ (a':=?_) ?_ ?_
               rotate_left
               ·show Act.put _ (some 47) _ = _
                simp only [Act.put,setIfInBounds_toArray,set_cons_zero,set_cons_succ,i64_w,i32_w]
                rfl
               exact norm_ (by first | (simp only [putAll,Act.put,setIfInBounds_toArray,set_cons_zero,set_cons_succ]; done) | (simp only [putAll,Act.put,setIfInBounds_toArray,set_cons_zero,set_cons_succ]; rfl)) (hJ1_8 (v331,gb335) _ ⟨hHeld,(by (with_reducible repeat (first | apply Kd.R_alloc | apply Kd.R_drewN | apply Kd.R_drew)); exact Kd.R_mono HO332.out (fun _ hk => ⟨hk.1.1,hk.2⟩)),(by (with_reducible repeat (first | apply Kd.V_alloc | apply Kd.V_drewN | apply Kd.V_drew)); exact Kd.V_mono HO_315000.out (fun _ hk => ⟨hk.1.1,⟨hk.2,⟨hk.1.2.1,⟨hk.1.2.2.1,hk.1.2.2.2⟩⟩⟩⟩)),(kA BK314.out),(kA BK315.out),(kA BK335.out),GW335.out,GE335.out,NB314_335.out,NB335_314.out,NB315_335.out,NB335_315.out,bA⟩)
              ·skip
               refine box_step ?hg (N:=12) ?hd (cs := #[.slice none 0 0,.int .i64 0]) (t:=28) ?hr ?_; (case hd => rfl); (case hg => rfl); (case hr => first | (go_simp; done) | (go_simp; rfl))
               intro gb334 hg w40 hbox hb
               have n0_ := Aside0.mk (Kd.V_below (Kd.V_elderB (by (with_reducible repeat (first | apply Kd.V_alloc | apply Kd.V_drewN | apply Kd.V_drew)); exact HO_315000.out) gb334 (Nat.le_of_eq hg.symm)) hb)
               have n1_ := Aside0.mk (blk_below (g:=gb314) (o:=.cells #[.slice A0_0 l0_0.length c0_0,.int .i64 a0_1] 28 (0,0)) (kA BK314.out) hb)
               have n2_ := Aside0.mk (blk_below (g:=gb315) (o:=.cells #[.slice none 0 0,.int .i64 0] 28 (0,0)) (kA BK315.out) hb)
               have n3_ := Aside0.mk (blk_below (g:=gb335) (o:=.cells #[.string (⟨#[]⟩ : ByteArray),.int .i64 0,.string (⟨#[]⟩ : ByteArray)] 71 (0,0)) (kA BK335.out) hb)
               have n4_ := Aside0.mk (below_step bA hb)
               have n5_ := Aside0.mk (hbox)
               have n6_ := Aside0.mk ((by rw [hg]; exact (below_size bA) : w.heap.size ≤ gb334))
               have n7_ := Aside0.mk ((by rw [hg]; exact (below_size bA) : w.heap.size ≤ gb334))
               have n8_ := Aside0.mk ((by rw [hg]; exact Nat.ne_of_lt (blk_lt (g:=gb314) (o:=.cells #[.slice A0_0 l0_0.length c0_0,.int .i64 a0_1] 28 (0,0)) (kA BK314.out)) : gb314 ≠ gb334))
               have n9_ := Aside0.mk ((by rw [hg]; exact Nat.ne_of_gt (blk_lt (g:=gb314) (o:=.cells #[.slice A0_0 l0_0.length c0_0,.int .i64 a0_1] 28 (0,0)) (kA BK314.out)) : gb334 ≠ gb314))
               have n10_ := Aside0.mk ((by rw [hg]; exact Nat.ne_of_lt (blk_lt (g:=gb315) (o:=.cells #[.slice none 0 0,.int .i64 0] 28 (0,0)) (kA BK315.out)) : gb315 ≠ gb334))
               have n11_ := Aside0.mk ((by rw [hg]; exact Nat.ne_of_gt (blk_lt (g:=gb315) (o:=.cells #[.slice none 0 0,.int .i64 0] 28 (0,0)) (kA BK315.out)) : gb334 ≠ gb315))
               have n12_ := Aside0.mk ((by rw [hg]; exact Nat.ne_of_lt (blk_lt (g:=gb335) (o:=.cells #[.string (⟨#[]⟩ : ByteArray),.int .i64 0,.string (⟨#[]⟩ : ByteArray)] 71 (0,0)) (kA BK335.out)) : gb335 ≠ gb334))
               have n13_ := Aside0.mk ((by rw [hg]; exact Nat.ne_of_gt (blk_lt (g:=gb335) (o:=.cells #[.string (⟨#[]⟩ : ByteArray),.int .i64 0,.string (⟨#[]⟩ : ByteArray)] 71 (0,0)) (kA BK335.out)) : gb334 ≠ gb335))
               clear HO_315000
               clear BK314
               clear BK315
               clear BK335
               clear HB
               have HO_315000 := n0_
               have BK314 := n1_
               have BK315 := n2_
               have BK335 := n3_
               have HB := n4_
               have BK334 := n5_
               have GW334 := n6_
               have GE334 := n7_
               have NB314_334 := n8_
               have NB334_314 := n9_
               have NB315_334 := n10_
               have NB334_315 := n11_
               have NB335_334 := n12_
               have NB334_335 := n13_
               clear n0_ n1_ n2_ n3_ n4_ n5_ n6_ n7_ n8_ n9_ n10_ n11_ n12_ n13_
               clear hb hbox hg
               refine hK.out _ _ ⟨(blk_cell BK314.out 0).trans rfl,(blk_cell BK314.out 1).trans rfl⟩ (fun hHeld => ?_)
               clear hK K
               refine norm_ (a':=?_) ?_ ?_
               rotate_left
               ·show Act.put _ (some 12) _ = _
                simp only [Act.put,setIfInBounds_toArray,set_cons_zero,set_cons_succ,i64_w,i32_w]
                rfl
               exact norm_ (by first | (simp only [putAll,Act.put,setIfInBounds_toArray,set_cons_zero,set_cons_succ]; done) | (simp only [putAll,Act.put,setIfInBounds_toArray,set_cons_zero,set_cons_succ]; rfl)) (hJ7_8 (gb334,gb335) _ ⟨hHeld,(by (with_reducible repeat (first | apply Kd.V_alloc | apply Kd.V_drewN | apply Kd.V_drew)); exact Kd.V_mono HO_315000.out (fun _ hk => ⟨hk.1.1,⟨hk.1.2.1,⟨hk.1.2.2.1,⟨hk.2,hk.1.2.2.2⟩⟩⟩⟩)),(kA BK314.out),(kA BK315.out),(kA BK334.out),(kA BK335.out),GW334.out,GE334.out,NB314_334.out,NB334_314.out,NB315_334.out,NB334_315.out,NB335_334.out,NB334_335.out,GW335.out,GE335.out,NB314_335.out,NB335_314.out,NB315_335.out,NB335_315.out,bA⟩)
            ·skip
             rintro gb334 w39 ⟨hS_,h0_,h1_,h2_,h3_,h4_,h5_,h6_,h7_,h8_,h9_,h10_⟩
             have n0_ : Aside0 (Kd.V k71 71 w39 w.heap.size (fun k_ => (P0_0_ k_ ∨ w.heap.size ≤ k_) ∧ k_ ≠ gb314 ∧ k_ ≠ gb315 ∧ k_ ≠ gb334) (.slice A0_0 l0_0.length c0_0) l0_0) := ⟨h0_⟩
             have n1_ : Aside0 (w39.heap[gb314]? = some (.cells #[.slice A0_0 l0_0.length c0_0,.int .i64 a0_1] 28 (0,0))) := ⟨h1_⟩
             have n2_ : Aside0 (w39.heap[gb315]? = some (.cells #[.slice none 0 0,.int .i64 0] 28 (0,0))) := ⟨h2_⟩
             have n3_ : Aside0 (w39.heap[gb334]? = some (.cells #[.slice none 0 0,.int .i64 0] 28 (0,0))) := ⟨h3_⟩
             have n4_ : Aside0 (w.heap.size ≤ gb334) := ⟨h4_⟩
             have n5_ : Aside0 (w.heap.size ≤ gb334) := ⟨h5_⟩
             have n6_ : Aside0 (gb314 ≠ gb334) := ⟨h6_⟩
             have n7_ : Aside0 (gb334 ≠ gb314) := ⟨h7_⟩
             have n8_ : Aside0 (gb315 ≠ gb334) := ⟨h8_⟩
             have n9_ : Aside0 (gb334 ≠ gb315) := ⟨h9_⟩
             have n10_ : Aside0 (Below w.heap.size w w39) := ⟨h10_⟩
             clear HO_315000
             clear BK314
             clear BK315
             clear HB
             clear h0_ h1_ h2_ h3_ h4_ h5_ h6_ h7_ h8_ h9_ h10_
             have HO_315000 := n0_
             have BK314 := n1_
             have BK315 := n2_
             have BK334 := n3_
             have GW334 := n4_
             have GE334 := n5_
             have NB314_334 := n6_
             have NB334_314 := n7_
             have NB315_334 := n8_
             have NB334_315 := n9_
             have HB := n10_
             clear n0_ n1_ n2_ n3_ n4_ n5_ n6_ n7_ n8_ n9_ n10_
             have hHeld : w39.cell? ⟨gb314,0,none⟩ = some (.slice A0_0 l0_0.length c0_0) ∧ w39.cell? ⟨gb314,1,none⟩ = some (.int .i64 a0_1) := hS_
             refine norm_ (a':=?_) ?_ ?_
             rotate_left
             ·simp only [putAll,Act.put,setIfInBounds_toArray,set_cons_zero,set_cons_succ]
              rfl
             refine two_ (i:=1) (j:=8) (Ni := some 47) (Nj := some 13) (bm 11 255) (bm 11 509) rfl rfl rfl rfl (two_of HT_.out (by kernel_rfl)) (by decide) (by decide) (fun K hK => ?_) (fun K hK => ?_)
             ·skip
              refine goes_ Try.func32 (by kernel_rfl) rfl #[.agg #[.slice A0_0 l0_0.length c0_0,.int .i64 a0_1]] (by rfl) rfl rfl mA ?_
              with_reducible refine (impl_Store_copied.calls _ _ l0_0 a0_1 t330 t333 _ ?side1 ?side2 A32.out).mono ?_
              (case side1 => repeat (first | exact (Kd.V_reads' HO_315000.out).2.2 | (with_reducible refine Kd.C_alloc ?_ _) | (with_reducible refine Kd.C_drewN ?_ _) | (with_reducible refine Kd.C_drew ?_)))
              (case side2 => exact (Kd.V_reads' HO_315000.out).2.1)
              rintro e w40 ⟨v331,rfl,ho0,hb⟩
              refine ⟨_,rfl,?_⟩
              have n0_ := Aside0.mk (Kd.V_elder' (by (with_reducible repeat (first | apply Kd.V_alloc | apply Kd.V_drewN | apply Kd.V_drew)); exact HO_315000.out) (Kd.R_base ho0) hb)
              have n1_ := Aside0.mk (Kd.R_lower (Kd.R_newM (M:=fun k_ => (w.heap.size ≤ k_)) ho0 (below_size bA) (fun k_ h_ => h_)) (below_size bA))
              have n2_ := Aside0.mk (blk_below (g:=gb314) (o:=.cells #[.slice A0_0 l0_0.length c0_0,.int .i64 a0_1] 28 (0,0)) (kA BK314.out) hb)
              have n3_ := Aside0.mk (blk_below (g:=gb315) (o:=.cells #[.slice none 0 0,.int .i64 0] 28 (0,0)) (kA BK315.out) hb)
              have n4_ := Aside0.mk (blk_below (g:=gb334) (o:=.cells #[.slice none 0 0,.int .i64 0] 28 (0,0)) (kA BK334.out) hb)
              have n5_ := Aside0.mk (below_step bA hb)
              clear HO_315000
              clear BK314
              clear BK315
              clear BK334
              clear HB
              have HO_315000 := n0_
              have HO332 := n1_
              have BK314 := n2_
              have BK315 := n3_
              have BK334 := n4_
              have HB := n5_
              clear n0_ n1_ n2_ n3_ n4_ n5_
              (try clear hb)
              (try clear hb2)
              (try clear hk)
              (try clear hi)
              (try clear ho0)
              refine hK.out _ _ ⟨(blk_cell BK314.out 0).trans rfl,(blk_cell BK314.out 1).trans rfl⟩ (fun hHeld => ?_)
              clear hK K
              refine norm_ (a':=?_) ?_ ?_
              rotate_left
              ·show Act.put _ (some 47) _ = _
               simp only [Act.put,setIfInBounds_toArray,set_cons_zero,set_cons_succ,i64_w,i32_w]
               rfl
              exact norm_ (by first | (simp only [putAll,Act.put,setIfInBounds_toArray,set_cons_zero,set_cons_succ]; done) | (simp only [putAll,Act.put,setIfInBounds_toArray,set_cons_zero,set_cons_succ]; rfl)) (hJ1_7 (v331,gb334) _ ⟨hHeld,(by (with_reducible repeat (first | apply Kd.R_alloc | apply Kd.R_drewN | apply Kd.R_drew)); exact Kd.R_mono HO332.out (fun _ hk => hk.1)),(by (with_reducible repeat (first | apply Kd.V_alloc | apply Kd.V_drewN | apply Kd.V_drew)); exact Kd.V_mono HO_315000.out (fun _ hk => ⟨hk.1.1,⟨hk.2,⟨hk.1.2.1,⟨hk.1.2.2.1,hk.1.2.2.2⟩⟩⟩⟩)),(kA BK314.out),(kA BK315.out),(kA BK334.out),GW334.out,GE334.out,NB314_334.out,NB334_314.out,NB315_334.out,NB334_315.out,bA⟩)
             ·skip
              refine box_step ?hg (N:=13) ?hd (cs := #[.string (⟨#[]⟩ : ByteArray),.int .i64 0,.string (⟨#[]⟩ : ByteArray)]) (t:=71) ?hr ?_; (case hd => rfl); (case hg => rfl); (case hr => first | (go_simp; done) | (go_simp; rfl))
              intro gb335 hg w40 hbox hb
              have n0_ := Aside0.mk (Kd.V_below (Kd.V_elderB (by (with_reducible repeat (first | apply Kd.V_alloc | apply Kd.V_drewN | apply Kd.V_drew)); exact HO_315000.out) gb335 (Nat.le_of_eq hg.symm)) hb)
              have n1_ := Aside0.mk (blk_below (g:=gb314) (o:=.cells #[.slice A0_0 l0_0.length c0_0,.int .i64 a0_1] 28 (0,0)) (kA BK314.out) hb)
              have n2_ := Aside0.mk (blk_below (g:=gb315) (o:=.cells #[.slice none 0 0,.int .i64 0] 28 (0,0)) (kA BK315.out) hb)
              have n3_ := Aside0.mk (blk_below (g:=gb334) (o:=.cells #[.slice none 0 0,.int .i64 0] 28 (0,0)) (kA BK334.out) hb)
              have n4_ := Aside0.mk (below_step bA hb)
              have n5_ := Aside0.mk (hbox)
              have n6_ := Aside0.mk ((by rw [hg]; exact (below_size bA) : w.heap.size ≤ gb335))
              have n7_ := Aside0.mk ((by rw [hg]; exact (below_size bA) : w.heap.size ≤ gb335))
              have n8_ := Aside0.mk ((by rw [hg]; exact Nat.ne_of_lt (blk_lt (g:=gb314) (o:=.cells #[.slice A0_0 l0_0.length c0_0,.int .i64 a0_1] 28 (0,0)) (kA BK314.out)) : gb314 ≠ gb335))
              have n9_ := Aside0.mk ((by rw [hg]; exact Nat.ne_of_gt (blk_lt (g:=gb314) (o:=.cells #[.slice A0_0 l0_0.length c0_0,.int .i64 a0_1] 28 (0,0)) (kA BK314.out)) : gb335 ≠ gb314))
              have n10_ := Aside0.mk ((by rw [hg]; exact Nat.ne_of_lt (blk_lt (g:=gb315) (o:=.cells #[.slice none 0 0,.int .i64 0] 28 (0,0)) (kA BK315.out)) : gb315 ≠ gb335))
              have n11_ := Aside0.mk ((by rw [hg]; exact Nat.ne_of_gt (blk_lt (g:=gb315) (o:=.cells #[.slice none 0 0,.int .i64 0] 28 (0,0)) (kA BK315.out)) : gb335 ≠ gb315))
              have n12_ := Aside0.mk ((by rw [hg]; exact Nat.ne_of_lt (blk_lt (g:=gb334) (o:=.cells #[.slice none 0 0,.int .i64 0] 28 (0,0)) (kA BK334.out)) : gb334 ≠ gb335))
              have n13_ := Aside0.mk ((by rw [hg]; exact Nat.ne_of_gt (blk_lt (g:=gb334) (o:=.cells #[.slice none 0 0,.int .i64 0] 28 (0,0)) (kA BK334.out)) : gb335 ≠ gb334))
              clear HO_315000
              clear BK314
              clear BK315
              clear BK334
              clear HB
              have HO_315000 := n0_
              have BK314 := n1_
              have BK315 := n2_
              have BK334 := n3_
              have HB := n4_
              have BK335 := n5_
              have GW335 := n6_
              have GE335 := n7_
              have NB314_335 := n8_
              have NB335_314 := n9_
              have NB315_335 := n10_
              have NB335_315 := n11_
              have NB334_335 := n12_
              have NB335_334 := n13_
              clear n0_ n1_ n2_ n3_ n4_ n5_ n6_ n7_ n8_ n9_ n10_ n11_ n12_ n13_
              clear hb hbox hg
              refine hK.out _ _ ⟨(blk_cell BK314.out 0).trans rfl,(blk_cell BK314.out 1).trans rfl⟩ (fun hHeld => ?_)
              clear hK K
              refine norm_ (a':=?_) ?_ ?_
              rotate_left
              ·show Act.put _ (some 13) _ = _
               simp only [Act.put,setIfInBounds_toArray,set_cons_zero,set_cons_succ,i64_w,i32_w]
               rfl
              exact norm_ (by first | (simp only [putAll,Act.put,setIfInBounds_toArray,set_cons_zero,set_cons_succ]; done) | (simp only [putAll,Act.put,setIfInBounds_toArray,set_cons_zero,set_cons_succ]; rfl)) (hJ7_8 (gb334,gb335) _ ⟨hHeld,(by (with_reducible repeat (first | apply Kd.V_alloc | apply Kd.V_drewN | apply Kd.V_drew)); exact Kd.V_mono HO_315000.out (fun _ hk => ⟨hk.1.1,⟨hk.1.2.1,⟨hk.1.2.2.1,⟨hk.1.2.2.2,hk.2⟩⟩⟩⟩)),(kA BK314.out),(kA BK315.out),(kA BK334.out),(kA BK335.out),GW334.out,GE334.out,NB314_334.out,NB334_314.out,NB315_334.out,NB334_315.out,NB335_334.out,NB334_335.out,GW335.out,GE335.out,NB314_335.out,NB335_314.out,NB315_335.out,NB335_315.out,bA⟩)
           ·skip
            rintro v331 w39 ⟨hS_,h0_,h1_,h2_,h3_,h4_⟩
            have n0_ : Aside0 (Kd.R k71 71 w39 w.heap.size (fun k_ => (w.heap.size ≤ k_)) v331 t330) := ⟨h0_⟩
            have n1_ : Aside0 (Kd.V k71 71 w39 w.heap.size (fun k_ => (P0_0_ k_ ∨ w.heap.size ≤ k_) ∧ some k_ ≠ (v331 : Value).ownBlock ∧ k_ ≠ gb314 ∧ k_ ≠ gb315) (.slice A0_0 l0_0.length c0_0) l0_0) := ⟨h1_⟩
            have n2_ : Aside0 (w39.heap[gb314]? = some (.cells #[.slice A0_0 l0_0.length c0_0,.int .i64 a0_1] 28 (0,0))) := ⟨h2_⟩
            have n3_ : Aside0 (w39.heap[gb315]? = some (.cells #[.slice none 0 0,.int .i64 0] 28 (0,0))) := ⟨h3_⟩
            have n4_ : Aside0 (Below w.heap.size w w39) := ⟨h4_⟩
            clear HO_315000
            clear BK314
            clear BK315
            clear HB
            clear h0_ h1_ h2_ h3_ h4_
            have HO332 := n0_
            have HO_315000 := n1_
            have BK314 := n2_
            have BK315 := n3_
            have HB := n4_
            clear n0_ n1_ n2_ n3_ n4_
            have hHeld : w39.cell? ⟨gb314,0,none⟩ = some (.slice A0_0 l0_0.length c0_0) ∧ w39.cell? ⟨gb314,1,none⟩ = some (.int .i64 a0_1) := hS_
            refine norm_ (a':=?_) ?_ ?_
            rotate_left
            ·simp only [putAll,Act.put,setIfInBounds_toArray,set_cons_zero,set_cons_succ]
             rfl
            refine two_ (i:=7) (j:=8) (Ni := some 12) (Nj := some 13) (bm 11 255) (bm 11 383) rfl rfl rfl rfl (two_of HT_.out (by kernel_rfl)) (by decide) (by decide) (fun K hK => ?_) (fun K hK => ?_)
            ·skip
             refine box_step ?hg (N:=12) ?hd (cs := #[.slice none 0 0,.int .i64 0]) (t:=28) ?hr ?_; (case hd => rfl); (case hg => rfl); (case hr => first | (go_simp; done) | (go_simp; rfl))
             intro gb334 hg w40 hbox hb
             have n0_ := Aside0.mk (Kd.V_below (Kd.V_elderB (by (with_reducible repeat (first | apply Kd.V_alloc | apply Kd.V_drewN | apply Kd.V_drew)); exact HO_315000.out) gb334 (Nat.le_of_eq hg.symm)) hb)
             have n1_ := Aside0.mk (Kd.R_below (rA HO332.out) hb)
             have n2_ := Aside0.mk (blk_below (g:=gb314) (o:=.cells #[.slice A0_0 l0_0.length c0_0,.int .i64 a0_1] 28 (0,0)) (kA BK314.out) hb)
             have n3_ := Aside0.mk (blk_below (g:=gb315) (o:=.cells #[.slice none 0 0,.int .i64 0] 28 (0,0)) (kA BK315.out) hb)
             have n4_ := Aside0.mk (below_step bA hb)
             have n5_ := Aside0.mk (hbox)
             have n6_ := Aside0.mk ((by rw [hg]; exact (below_size bA) : w.heap.size ≤ gb334))
             have n7_ := Aside0.mk ((by rw [hg]; exact (below_size bA) : w.heap.size ≤ gb334))
             have n8_ := Aside0.mk ((by rw [hg]; exact Nat.ne_of_lt (blk_lt (g:=gb314) (o:=.cells #[.slice A0_0 l0_0.length c0_0,.int .i64 a0_1] 28 (0,0)) (kA BK314.out)) : gb314 ≠ gb334))
             have n9_ := Aside0.mk ((by rw [hg]; exact Nat.ne_of_gt (blk_lt (g:=gb314) (o:=.cells #[.slice A0_0 l0_0.length c0_0,.int .i64 a0_1] 28 (0,0)) (kA BK314.out)) : gb334 ≠ gb314))
             have n10_ := Aside0.mk ((by rw [hg]; exact Nat.ne_of_lt (blk_lt (g:=gb315) (o:=.cells #[.slice none 0 0,.int .i64 0] 28 (0,0)) (kA BK315.out)) : gb315 ≠ gb334))
             have n11_ := Aside0.mk ((by rw [hg]; exact Nat.ne_of_gt (blk_lt (g:=gb315) (o:=.cells #[.slice none 0 0,.int .i64 0] 28 (0,0)) (kA BK315.out)) : gb334 ≠ gb315))
             clear HO_315000
             clear HO332
             clear BK314
             clear BK315
             clear HB
             have HO_315000 := n0_
             have HO332 := n1_
             have BK314 := n2_
             have BK315 := n3_
             have HB := n4_
             have BK334 := n5_
             have GW334 := n6_
             have GE334 := n7_
             have NB314_334 := n8_
             have NB334_314 := n9_
             have NB315_334 := n10_
             have NB334_315 := n11_
             clear n0_ n1_ n2_ n3_ n4_ n5_ n6_ n7_ n8_ n9_ n10_ n11_
             clear hb hbox hg
             refine hK.out _ _ ⟨(blk_cell BK314.out 0).trans rfl,(blk_cell BK314.out 1).trans rfl⟩ (fun hHeld => ?_)
             clear hK K
             refine norm_ (a':=?_) ?_ ?_
             rotate_left
             ·show Act.put _ (some 12) _ = _
              simp only [Act.put,setIfInBounds_toArray,set_cons_zero,set_cons_succ,i64_w,i32_w]
              rfl
             exact norm_ (by first | (simp only [putAll,Act.put,setIfInBounds_toArray,set_cons_zero,set_cons_succ]; done) | (simp only [putAll,Act.put,setIfInBounds_toArray,set_cons_zero,set_cons_succ]; rfl)) (hJ1_7 (v331,gb334) _ ⟨hHeld,(rA HO332.out),(by (with_reducible repeat (first | apply Kd.V_alloc | apply Kd.V_drewN | apply Kd.V_drew)); exact Kd.V_mono HO_315000.out (fun _ hk => ⟨hk.1.1,⟨hk.1.2.1,⟨hk.1.2.2.1,⟨hk.1.2.2.2,hk.2⟩⟩⟩⟩)),(kA BK314.out),(kA BK315.out),(kA BK334.out),GW334.out,GE334.out,NB314_334.out,NB334_314.out,NB315_334.out,NB334_315.out,bA⟩)
            ·skip
             refine box_step ?hg (N:=13) ?hd (cs := #[.string (⟨#[]⟩ : ByteArray),.int .i64 0,.string (⟨#[]⟩ : ByteArray)]) (t:=71) ?hr ?_; (case hd => rfl); (case hg => rfl); (case hr => first | (go_simp; done) | (go_simp; rfl))
             intro gb335 hg w40 hbox hb
             have n0_ := Aside0.mk (Kd.V_below (Kd.V_elderB (by (with_reducible repeat (first | apply Kd.V_alloc | apply Kd.V_drewN | apply Kd.V_drew)); exact HO_315000.out) gb335 (Nat.le_of_eq hg.symm)) hb)
             have n1_ := Aside0.mk (Kd.R_below (Kd.R_elderB (rA HO332.out) gb335 (Nat.le_of_eq hg.symm)) hb)
             have n2_ := Aside0.mk (blk_below (g:=gb314) (o:=.cells #[.slice A0_0 l0_0.length c0_0,.int .i64 a0_1] 28 (0,0)) (kA BK314.out) hb)
             have n3_ := Aside0.mk (blk_below (g:=gb315) (o:=.cells #[.slice none 0 0,.int .i64 0] 28 (0,0)) (kA BK315.out) hb)
             have n4_ := Aside0.mk (below_step bA hb)
             have n5_ := Aside0.mk (hbox)
             have n6_ := Aside0.mk ((by rw [hg]; exact (below_size bA) : w.heap.size ≤ gb335))
             have n7_ := Aside0.mk ((by rw [hg]; exact (below_size bA) : w.heap.size ≤ gb335))
             have n8_ := Aside0.mk ((by rw [hg]; exact Nat.ne_of_lt (blk_lt (g:=gb314) (o:=.cells #[.slice A0_0 l0_0.length c0_0,.int .i64 a0_1] 28 (0,0)) (kA BK314.out)) : gb314 ≠ gb335))
             have n9_ := Aside0.mk ((by rw [hg]; exact Nat.ne_of_gt (blk_lt (g:=gb314) (o:=.cells #[.slice A0_0 l0_0.length c0_0,.int .i64 a0_1] 28 (0,0)) (kA BK314.out)) : gb335 ≠ gb314))
             have n10_ := Aside0.mk ((by rw [hg]; exact Nat.ne_of_lt (blk_lt (g:=gb315) (o:=.cells #[.slice none 0 0,.int .i64 0] 28 (0,0)) (kA BK315.out)) : gb315 ≠ gb335))
             have n11_ := Aside0.mk ((by rw [hg]; exact Nat.ne_of_gt (blk_lt (g:=gb315) (o:=.cells #[.slice none 0 0,.int .i64 0] 28 (0,0)) (kA BK315.out)) : gb335 ≠ gb315))
             clear HO_315000
             clear HO332
             clear BK314
             clear BK315
             clear HB
             have HO_315000 := n0_
             have HO332 := n1_
             have BK314 := n2_
             have BK315 := n3_
             have HB := n4_
             have BK335 := n5_
             have GW335 := n6_
             have GE335 := n7_
             have NB314_335 := n8_
             have NB335_314 := n9_
             have NB315_335 := n10_
             have NB335_315 := n11_
             clear n0_ n1_ n2_ n3_ n4_ n5_ n6_ n7_ n8_ n9_ n10_ n11_
             clear hb hbox hg
             refine hK.out _ _ ⟨(blk_cell BK314.out 0).trans rfl,(blk_cell BK314.out 1).trans rfl⟩ (fun hHeld => ?_)
             clear hK K
             refine norm_ (a':=?_) ?_ ?_
             rotate_left
             ·show Act.put _ (some 13) _ = _
              simp only [Act.put,setIfInBounds_toArray,set_cons_zero,set_cons_succ,i64_w,i32_w]
              rfl
             exact norm_ (by first | (simp only [putAll,Act.put,setIfInBounds_toArray,set_cons_zero,set_cons_succ]; done) | (simp only [putAll,Act.put,setIfInBounds_toArray,set_cons_zero,set_cons_succ]; rfl)) (hJ1_8 (v331,gb335) _ ⟨hHeld,(rA HO332.out),(by (with_reducible repeat (first | apply Kd.V_alloc | apply Kd.V_drewN | apply Kd.V_drew)); exact Kd.V_mono HO_315000.out (fun _ hk => ⟨hk.1.1,⟨hk.1.2.1,⟨hk.1.2.2.1,⟨hk.1.2.2.2,hk.2⟩⟩⟩⟩)),(kA BK314.out),(kA BK315.out),(kA BK335.out),GW335.out,GE335.out,NB314_335.out,NB335_314.out,NB315_335.out,NB335_315.out,bA⟩)
          ·skip
           rintro ⟨gb334,gb335⟩ w40 ⟨hS_,h0_,h1_,h2_,h3_,h4_,h5_,h6_,h7_,h8_,h9_,h10_,h11_,h12_,h13_,h14_,h15_,h16_,h17_,h18_,h19_⟩
           have n0_ : Aside0 (Kd.V k71 71 w40 w.heap.size (fun k_ => (P0_0_ k_ ∨ w.heap.size ≤ k_) ∧ k_ ≠ gb314 ∧ k_ ≠ gb315 ∧ k_ ≠ gb334 ∧ k_ ≠ gb335) (.slice A0_0 l0_0.length c0_0) l0_0) := ⟨h0_⟩
           have n1_ : Aside0 (w40.heap[gb314]? = some (.cells #[.slice A0_0 l0_0.length c0_0,.int .i64 a0_1] 28 (0,0))) := ⟨h1_⟩
           have n2_ : Aside0 (w40.heap[gb315]? = some (.cells #[.slice none 0 0,.int .i64 0] 28 (0,0))) := ⟨h2_⟩
           have n3_ : Aside0 (w40.heap[gb334]? = some (.cells #[.slice none 0 0,.int .i64 0] 28 (0,0))) := ⟨h3_⟩
           have n4_ : Aside0 (w40.heap[gb335]? = some (.cells #[.string (⟨#[]⟩ : ByteArray),.int .i64 0,.string (⟨#[]⟩ : ByteArray)] 71 (0,0))) := ⟨h4_⟩
           have n5_ : Aside0 (w.heap.size ≤ gb334) := ⟨h5_⟩
           have n6_ : Aside0 (w.heap.size ≤ gb334) := ⟨h6_⟩
           have n7_ : Aside0 (gb314 ≠ gb334) := ⟨h7_⟩
           have n8_ : Aside0 (gb334 ≠ gb314) := ⟨h8_⟩
           have n9_ : Aside0 (gb315 ≠ gb334) := ⟨h9_⟩
           have n10_ : Aside0 (gb334 ≠ gb315) := ⟨h10_⟩
           have n11_ : Aside0 (gb335 ≠ gb334) := ⟨h11_⟩
           have n12_ : Aside0 (gb334 ≠ gb335) := ⟨h12_⟩
           have n13_ : Aside0 (w.heap.size ≤ gb335) := ⟨h13_⟩
           have n14_ : Aside0 (w.heap.size ≤ gb335) := ⟨h14_⟩
           have n15_ : Aside0 (gb314 ≠ gb335) := ⟨h15_⟩
           have n16_ : Aside0 (gb335 ≠ gb314) := ⟨h16_⟩
           have n17_ : Aside0 (gb315 ≠ gb335) := ⟨h17_⟩
           have n18_ : Aside0 (gb335 ≠ gb315) := ⟨h18_⟩
           have n19_ : Aside0 (Below w.heap.size w w40) := ⟨h19_⟩
           clear HO_315000
           clear BK314
           clear BK315
           clear HB
           clear h0_ h1_ h2_ h3_ h4_ h5_ h6_ h7_ h8_ h9_ h10_ h11_ h12_ h13_ h14_ h15_ h16_ h17_ h18_ h19_
           have HO_315000 := n0_
           have BK314 := n1_
           have BK315 := n2_
           have BK334 := n3_
           have BK335 := n4_
           have GW334 := n5_
           have GE334 := n6_
           have NB314_334 := n7_
           have NB334_314 := n8_
           have NB315_334 := n9_
           have NB334_315 := n10_
           have NB335_334 := n11_
           have NB334_335 := n12_
           have GW335 := n13_
           have GE335 := n14_
           have NB314_335 := n15_
           have NB335_314 := n16_
           have NB315_335 := n17_
           have NB335_315 := n18_
           have HB := n19_
           clear n0_ n1_ n2_ n3_ n4_ n5_ n6_ n7_ n8_ n9_ n10_ n11_ n12_ n13_ n14_ n15_ n16_ n17_ n18_ n19_
           have hHeld : w40.cell? ⟨gb314,0,none⟩ = some (.slice A0_0 l0_0.length c0_0) ∧ w40.cell? ⟨gb314,1,none⟩ = some (.int .i64 a0_1) := hS_
           refine norm_ (a':=?_) ?_ ?_
           rotate_left
           ·simp only [putAll,Act.put,setIfInBounds_toArray,set_cons_zero,set_cons_succ]
            rfl
           refine one_ (i:=1) (N:=some 47) (bm 11 511) rfl rfl (one_of HT_.out (by kernel_rfl)) (by decide) (fun K hK => ?_)
           refine goes_ Try.func32 (by kernel_rfl) rfl #[.agg #[.slice A0_0 l0_0.length c0_0,.int .i64 a0_1]] (by rfl) rfl rfl mA ?_
           with_reducible refine (impl_Store_copied.calls _ _ l0_0 a0_1 t330 t333 _ ?side1 ?side2 A32.out).mono ?_
           (case side1 => repeat (first | exact (Kd.V_reads' HO_315000.out).2.2 | (with_reducible refine Kd.C_alloc ?_ _) | (with_reducible refine Kd.C_drewN ?_ _) | (with_reducible refine Kd.C_drew ?_)))
           (case side2 => exact (Kd.V_reads' HO_315000.out).2.1)
           rintro e w41 ⟨v331,rfl,ho0,hb⟩
           refine ⟨_,rfl,?_⟩
           have n0_ := Aside0.mk (Kd.V_elder' (by (with_reducible repeat (first | apply Kd.V_alloc | apply Kd.V_drewN | apply Kd.V_drew)); exact HO_315000.out) (Kd.R_base ho0) hb)
           have n1_ := Aside0.mk (Kd.R_lower (Kd.R_newB (Kd.R_newM (M:=fun k_ => (w.heap.size ≤ k_)) ho0 (below_size bA) (fun k_ h_ => h_)) (g:=gb335) (o:=.cells #[.string (⟨#[]⟩ : ByteArray),.int .i64 0,.string (⟨#[]⟩ : ByteArray)] 71 (0,0)) (kA BK335.out)) (below_size bA))
           have n2_ := Aside0.mk (blk_below (g:=gb314) (o:=.cells #[.slice A0_0 l0_0.length c0_0,.int .i64 a0_1] 28 (0,0)) (kA BK314.out) hb)
           have n3_ := Aside0.mk (blk_below (g:=gb315) (o:=.cells #[.slice none 0 0,.int .i64 0] 28 (0,0)) (kA BK315.out) hb)
           have n4_ := Aside0.mk (blk_below (g:=gb334) (o:=.cells #[.slice none 0 0,.int .i64 0] 28 (0,0)) (kA BK334.out) hb)
           have n5_ := Aside0.mk (blk_below (g:=gb335) (o:=.cells #[.string (⟨#[]⟩ : ByteArray),.int .i64 0,.string (⟨#[]⟩ : ByteArray)] 71 (0,0)) (kA BK335.out) hb)
           have n6_ := Aside0.mk (below_step bA hb)
           clear HO_315000
           clear BK314
           clear BK315
           clear BK334
           clear BK335
           clear HB
           have HO_315000 := n0_
           have HO332 := n1_
           have BK314 := n2_
           have BK315 := n3_
           have BK334 := n4_
           have BK335 := n5_
           have HB := n6_
           clear n0_ n1_ n2_ n3_ n4_ n5_ n6_
           (try clear hb)
           (try clear hb2)
           (try clear hk)
           (try clear hi)
           (try clear ho0)
           refine hK.out _ _ ⟨(blk_cell BK314.out 0).trans rfl,(blk_cell BK314.out 1).trans rfl⟩ (fun hHeld => ?_)
           clear hK K
           refine norm_ (a':=?_) ?_ ?_
           rotate_left
           ·show Act.put _ (some 47) _ = _
            simp only [Act.put,setIfInBounds_toArray,set_cons_zero,set_cons_succ,i64_w,i32_w]
            rfl
           exact norm_ (by first | (simp only [putAll,Act.put,setIfInBounds_toArray,set_cons_zero,set_cons_succ]; done) | (simp only [putAll,Act.put,setIfInBounds_toArray,set_cons_zero,set_cons_succ]; rfl)) (hJ1_7_8 (v331,gb334,gb335) _ ⟨hHeld,(by (with_reducible repeat (first | apply Kd.R_alloc | apply Kd.R_drewN | apply Kd.R_drew)); exact Kd.R_mono HO332.out (fun _ hk => ⟨hk.1.1,hk.2⟩)),(by (with_reducible repeat (first | apply Kd.V_alloc | apply Kd.V_drewN | apply Kd.V_drew)); exact Kd.V_mono HO_315000.out (fun _ hk => ⟨hk.1.1,⟨hk.2,⟨hk.1.2.1,⟨hk.1.2.2.1,⟨hk.1.2.2.2.1,hk.1.2.2.2.2⟩⟩⟩⟩⟩)),(kA BK314.out),(kA BK315.out),(kA BK334.out),(kA BK335.out),GW334.out,GE334.out,NB314_334.out,NB334_314.out,NB315_334.out,NB334_315.out,NB335_334.out,NB334_335.out,GW335.out,GE335.out,NB314_335.out,NB335_314.out,NB315_335.out,NB335_315.out,bA⟩)
         ·skip
          rintro ⟨v331,gb335⟩ w40 ⟨hS_,h0_,h1_,h2_,h3_,h4_,h5_,h6_,h7_,h8_,h9_,h10_,h11_⟩
          have n0_ : Aside0 (Kd.R k71 71 w40 w.heap.size (fun k_ => (w.heap.size ≤ k_) ∧ k_ ≠ gb335) v331 t330) := ⟨h0_⟩
          have n1_ : Aside0 (Kd.V k71 71 w40 w.heap.size (fun k_ => (P0_0_ k_ ∨ w.heap.size ≤ k_) ∧ some k_ ≠ (v331 : Value).ownBlock ∧ k_ ≠ gb314 ∧ k_ ≠ gb315 ∧ k_ ≠ gb335) (.slice A0_0 l0_0.length c0_0) l0_0) := ⟨h1_⟩
          have n2_ : Aside0 (w40.heap[gb314]? = some (.cells #[.slice A0_0 l0_0.length c0_0,.int .i64 a0_1] 28 (0,0))) := ⟨h2_⟩
          have n3_ : Aside0 (w40.heap[gb315]? = some (.cells #[.slice none 0 0,.int .i64 0] 28 (0,0))) := ⟨h3_⟩
          have n4_ : Aside0 (w40.heap[gb335]? = some (.cells #[.string (⟨#[]⟩ : ByteArray),.int .i64 0,.string (⟨#[]⟩ : ByteArray)] 71 (0,0))) := ⟨h4_⟩
          have n5_ : Aside0 (w.heap.size ≤ gb335) := ⟨h5_⟩
          have n6_ : Aside0 (w.heap.size ≤ gb335) := ⟨h6_⟩
          have n7_ : Aside0 (gb314 ≠ gb335) := ⟨h7_⟩
          have n8_ : Aside0 (gb335 ≠ gb314) := ⟨h8_⟩
          have n9_ : Aside0 (gb315 ≠ gb335) := ⟨h9_⟩
          have n10_ : Aside0 (gb335 ≠ gb315) := ⟨h10_⟩
          have n11_ : Aside0 (Below w.heap.size w w40) := ⟨h11_⟩
          clear HO_315000
          clear BK314
          clear BK315
          clear HB
          clear h0_ h1_ h2_ h3_ h4_ h5_ h6_ h7_ h8_ h9_ h10_ h11_
          have HO332 := n0_
          have HO_315000 := n1_
          have BK314 := n2_
          have BK315 := n3_
          have BK335 := n4_
          have GW335 := n5_
          have GE335 := n6_
          have NB314_335 := n7_
          have NB335_314 := n8_
          have NB315_335 := n9_
          have NB335_315 := n10_
          have HB := n11_
          clear n0_ n1_ n2_ n3_ n4_ n5_ n6_ n7_ n8_ n9_ n10_ n11_
          have hHeld : w40.cell? ⟨gb314,0,none⟩ = some (.slice A0_0 l0_0.length c0_0) ∧ w40.cell? ⟨gb314,1,none⟩ = some (.int .i64 a0_1) := hS_
          refine norm_ (a':=?_) ?_ ?_
          rotate_left
          ·simp only [putAll,Act.put,setIfInBounds_toArray,set_cons_zero,set_cons_succ]
           rfl
          refine one_ (i:=7) (N:=some 12) (bm 11 511) rfl rfl (one_of HT_.out (by kernel_rfl)) (by decide) (fun K hK => ?_)
          refine box_step ?hg (N:=12) ?hd (cs := #[.slice none 0 0,.int .i64 0]) (t:=28) ?hr ?_; (case hd => rfl); (case hg => rfl); (case hr => first | (go_simp; done) | (go_simp; rfl))
          intro gb334 hg w41 hbox hb
          have n0_ := Aside0.mk (Kd.V_below (Kd.V_elderB (by (with_reducible repeat (first | apply Kd.V_alloc | apply Kd.V_drewN | apply Kd.V_drew)); exact HO_315000.out) gb334 (Nat.le_of_eq hg.symm)) hb)
          have n1_ := Aside0.mk (Kd.R_below (rA HO332.out) hb)
          have n2_ := Aside0.mk (blk_below (g:=gb314) (o:=.cells #[.slice A0_0 l0_0.length c0_0,.int .i64 a0_1] 28 (0,0)) (kA BK314.out) hb)
          have n3_ := Aside0.mk (blk_below (g:=gb315) (o:=.cells #[.slice none 0 0,.int .i64 0] 28 (0,0)) (kA BK315.out) hb)
          have n4_ := Aside0.mk (blk_below (g:=gb335) (o:=.cells #[.string (⟨#[]⟩ : ByteArray),.int .i64 0,.string (⟨#[]⟩ : ByteArray)] 71 (0,0)) (kA BK335.out) hb)
          have n5_ := Aside0.mk (below_step bA hb)
          have n6_ := Aside0.mk (hbox)
          have n7_ := Aside0.mk ((by rw [hg]; exact (below_size bA) : w.heap.size ≤ gb334))
          have n8_ := Aside0.mk ((by rw [hg]; exact (below_size bA) : w.heap.size ≤ gb334))
          have n9_ := Aside0.mk ((by rw [hg]; exact Nat.ne_of_lt (blk_lt (g:=gb314) (o:=.cells #[.slice A0_0 l0_0.length c0_0,.int .i64 a0_1] 28 (0,0)) (kA BK314.out)) : gb314 ≠ gb334))
          have n10_ := Aside0.mk ((by rw [hg]; exact Nat.ne_of_gt (blk_lt (g:=gb314) (o:=.cells #[.slice A0_0 l0_0.length c0_0,.int .i64 a0_1] 28 (0,0)) (kA BK314.out)) : gb334 ≠ gb314))
          have n11_ := Aside0.mk ((by rw [hg]; exact Nat.ne_of_lt (blk_lt (g:=gb315) (o:=.cells #[.slice none 0 0,.int .i64 0] 28 (0,0)) (kA BK315.out)) : gb315 ≠ gb334))
          have n12_ := Aside0.mk ((by rw [hg]; exact Nat.ne_of_gt (blk_lt (g:=gb315) (o:=.cells #[.slice none 0 0,.int .i64 0] 28 (0,0)) (kA BK315.out)) : gb334 ≠ gb315))
          have n13_ := Aside0.mk ((by rw [hg]; exact Nat.ne_of_lt (blk_lt (g:=gb335) (o:=.cells #[.string (⟨#[]⟩ : ByteArray),.int .i64 0,.string (⟨#[]⟩ : ByteArray)] 71 (0,0)) (kA BK335.out)) : gb335 ≠ gb334))
          have n14_ := Aside0.mk ((by rw [hg]; exact Nat.ne_of_gt (blk_lt (g:=gb335) (o:=.cells #[.string (⟨#[]⟩ : ByteArray),.int .i64 0,.string (⟨#[]⟩ : ByteArray)] 71 (0,0)) (kA BK335.out)) : gb334 ≠ gb335))
          clear HO_315000
          clear HO332
          clear BK314
          clear BK315
          clear BK335
          clear HB
          have HO_315000 := n0_
          have HO332 := n1_
          have BK314 := n2_
          have BK315 := n3_
          have BK335 := n4_
          have HB := n5_
          have BK334 := n6_
          have GW334 := n7_
          have GE334 := n8_
          have NB314_334 := n9_
          have NB334_314 := n10_
          have NB315_334 := n11_
          have NB334_315 := n12_
          have NB335_334 := n13_
          have NB334_335 := n14_
          clear n0_ n1_ n2_ n3_ n4_ n5_ n6_ n7_ n8_ n9_ n10_ n11_ n12_ n13_ n14_
          clear hb hbox hg
          refine hK.out _ _ ⟨(blk_cell BK314.out 0).trans rfl,(blk_cell BK314.out 1).trans rfl⟩ (fun hHeld => ?_)
          clear hK K
          refine norm_ (a':=?_) ?_ ?_
          rotate_left
          ·show Act.put _ (some 12) _ = _
           simp only [Act.put,setIfInBounds_toArray,set_cons_zero,set_cons_succ,i64_w,i32_w]
           rfl
          exact norm_ (by first | (simp only [putAll,Act.put,setIfInBounds_toArray,set_cons_zero,set_cons_succ]; done) | (simp only [putAll,Act.put,setIfInBounds_toArray,set_cons_zero,set_cons_succ]; rfl)) (hJ1_7_8 (v331,gb334,gb335) _ ⟨hHeld,(rA HO332.out),(by (with_reducible repeat (first | apply Kd.V_alloc | apply Kd.V_drewN | apply Kd.V_drew)); exact Kd.V_mono HO_315000.out (fun _ hk => ⟨hk.1.1,⟨hk.1.2.1,⟨hk.1.2.2.1,⟨hk.1.2.2.2.1,⟨hk.2,hk.1.2.2.2.2⟩⟩⟩⟩⟩)),(kA BK314.out),(kA BK315.out),(kA BK334.out),(kA BK335.out),GW334.out,GE334.out,NB314_334.out,NB334_314.out,NB315_334.out,NB334_315.out,NB335_334.out,NB334_335.out,GW335.out,GE335.out,NB314_335.out,NB335_314.out,NB315_335.out,NB335_315.out,bA⟩)
        ·skip
         rintro ⟨v331,gb334⟩ w40 ⟨hS_,h0_,h1_,h2_,h3_,h4_,h5_,h6_,h7_,h8_,h9_,h10_,h11_⟩
         have n0_ : Aside0 (Kd.R k71 71 w40 w.heap.size (fun k_ => (w.heap.size ≤ k_)) v331 t330) := ⟨h0_⟩
         have n1_ : Aside0 (Kd.V k71 71 w40 w.heap.size (fun k_ => (P0_0_ k_ ∨ w.heap.size ≤ k_) ∧ some k_ ≠ (v331 : Value).ownBlock ∧ k_ ≠ gb314 ∧ k_ ≠ gb315 ∧ k_ ≠ gb334) (.slice A0_0 l0_0.length c0_0) l0_0) := ⟨h1_⟩
         have n2_ : Aside0 (w40.heap[gb314]? = some (.cells #[.slice A0_0 l0_0.length c0_0,.int .i64 a0_1] 28 (0,0))) := ⟨h2_⟩
         have n3_ : Aside0 (w40.heap[gb315]? = some (.cells #[.slice none 0 0,.int .i64 0] 28 (0,0))) := ⟨h3_⟩
         have n4_ : Aside0 (w40.heap[gb334]? = some (.cells #[.slice none 0 0,.int .i64 0] 28 (0,0))) := ⟨h4_⟩
         have n5_ : Aside0 (w.heap.size ≤ gb334) := ⟨h5_⟩
         have n6_ : Aside0 (w.heap.size ≤ gb334) := ⟨h6_⟩
         have n7_ : Aside0 (gb314 ≠ gb334) := ⟨h7_⟩
         have n8_ : Aside0 (gb334 ≠ gb314) := ⟨h8_⟩
         have n9_ : Aside0 (gb315 ≠ gb334) := ⟨h9_⟩
         have n10_ : Aside0 (gb334 ≠ gb315) := ⟨h10_⟩
         have n11_ : Aside0 (Below w.heap.size w w40) := ⟨h11_⟩
         clear HO_315000
         clear BK314
         clear BK315
         clear HB
         clear h0_ h1_ h2_ h3_ h4_ h5_ h6_ h7_ h8_ h9_ h10_ h11_
         have HO332 := n0_
         have HO_315000 := n1_
         have BK314 := n2_
         have BK315 := n3_
         have BK334 := n4_
         have GW334 := n5_
         have GE334 := n6_
         have NB314_334 := n7_
         have NB334_314 := n8_
         have NB315_334 := n9_
         have NB334_315 := n10_
         have HB := n11_
         clear n0_ n1_ n2_ n3_ n4_ n5_ n6_ n7_ n8_ n9_ n10_ n11_
         have hHeld : w40.cell? ⟨gb314,0,none⟩ = some (.slice A0_0 l0_0.length c0_0) ∧ w40.cell? ⟨gb314,1,none⟩ = some (.int .i64 a0_1) := hS_
         refine norm_ (a':=?_) ?_ ?_
         rotate_left
         ·simp only [putAll,Act.put,setIfInBounds_toArray,set_cons_zero,set_cons_succ]
          rfl
         refine one_ (i:=8) (N:=some 13) (bm 11 511) rfl rfl (one_of HT_.out (by kernel_rfl)) (by decide) (fun K hK => ?_)
         refine box_step ?hg (N:=13) ?hd (cs := #[.string (⟨#[]⟩ : ByteArray),.int .i64 0,.string (⟨#[]⟩ : ByteArray)]) (t:=71) ?hr ?_; (case hd => rfl); (case hg => rfl); (case hr => first | (go_simp; done) | (go_simp; rfl))
         intro gb335 hg w41 hbox hb
         have n0_ := Aside0.mk (Kd.V_below (Kd.V_elderB (by (with_reducible repeat (first | apply Kd.V_alloc | apply Kd.V_drewN | apply Kd.V_drew)); exact HO_315000.out) gb335 (Nat.le_of_eq hg.symm)) hb)
         have n1_ := Aside0.mk (Kd.R_below (Kd.R_elderB (rA HO332.out) gb335 (Nat.le_of_eq hg.symm)) hb)
         have n2_ := Aside0.mk (blk_below (g:=gb314) (o:=.cells #[.slice A0_0 l0_0.length c0_0,.int .i64 a0_1] 28 (0,0)) (kA BK314.out) hb)
         have n3_ := Aside0.mk (blk_below (g:=gb315) (o:=.cells #[.slice none 0 0,.int .i64 0] 28 (0,0)) (kA BK315.out) hb)
         have n4_ := Aside0.mk (blk_below (g:=gb334) (o:=.cells #[.slice none 0 0,.int .i64 0] 28 (0,0)) (kA BK334.out) hb)
         have n5_ := Aside0.mk (below_step bA hb)
         have n6_ := Aside0.mk (hbox)
         have n7_ := Aside0.mk ((by rw [hg]; exact (below_size bA) : w.heap.size ≤ gb335))
         have n8_ := Aside0.mk ((by rw [hg]; exact (below_size bA) : w.heap.size ≤ gb335))
         have n9_ := Aside0.mk ((by rw [hg]; exact Nat.ne_of_lt (blk_lt (g:=gb314) (o:=.cells #[.slice A0_0 l0_0.length c0_0,.int .i64 a0_1] 28 (0,0)) (kA BK314.out)) : gb314 ≠ gb335))
         have n10_ := Aside0.mk ((by rw [hg]; exact Nat.ne_of_gt (blk_lt (g:=gb314) (o:=.cells #[.slice A0_0 l0_0.length c0_0,.int .i64 a0_1] 28 (0,0)) (kA BK314.out)) : gb335 ≠ gb314))
         have n11_ := Aside0.mk ((by rw [hg]; exact Nat.ne_of_lt (blk_lt (g:=gb315) (o:=.cells #[.slice none 0 0,.int .i64 0] 28 (0,0)) (kA BK315.out)) : gb315 ≠ gb335))
         have n12_ := Aside0.mk ((by rw [hg]; exact Nat.ne_of_gt (blk_lt (g:=gb315) (o:=.cells #[.slice none 0 0,.int .i64 0] 28 (0,0)) (kA BK315.out)) : gb335 ≠ gb315))
         have n13_ := Aside0.mk ((by rw [hg]; exact Nat.ne_of_lt (blk_lt (g:=gb334) (o:=.cells #[.slice none 0 0,.int .i64 0] 28 (0,0)) (kA BK334.out)) : gb334 ≠ gb335))
         have n14_ := Aside0.mk ((by rw [hg]; exact Nat.ne_of_gt (blk_lt (g:=gb334) (o:=.cells #[.slice none 0 0,.int .i64 0] 28 (0,0)) (kA BK334.out)) : gb335 ≠ gb334))
         clear HO_315000
         clear HO332
         clear BK314
         clear BK315
         clear BK334
         clear HB
         have HO_315000 := n0_
         have HO332 := n1_
         have BK314 := n2_
         have BK315 := n3_
         have BK334 := n4_
         have HB := n5_
         have BK335 := n6_
         have GW335 := n7_
         have GE335 := n8_
         have NB314_335 := n9_
         have NB335_314 := n10_
         have NB315_335 := n11_
         have NB335_315 := n12_
         have NB334_335 := n13_
         have NB335_334 := n14_
         clear n0_ n1_ n2_ n3_ n4_ n5_ n6_ n7_ n8_ n9_ n10_ n11_ n12_ n13_ n14_
         clear hb hbox hg
         refine hK.out _ _ ⟨(blk_cell BK314.out 0).trans rfl,(blk_cell BK314.out 1).trans rfl⟩ (fun hHeld => ?_)
         clear hK K
         refine norm_ (a':=?_) ?_ ?_
         rotate_left
         ·show Act.put _ (some 13) _ = _
          simp only [Act.put,setIfInBounds_toArray,set_cons_zero,set_cons_succ,i64_w,i32_w]
          rfl
         exact norm_ (by first | (simp only [putAll,Act.put,setIfInBounds_toArray,set_cons_zero,set_cons_succ]; done) | (simp only [putAll,Act.put,setIfInBounds_toArray,set_cons_zero,set_cons_succ]; rfl)) (hJ1_7_8 (v331,gb334,gb335) _ ⟨hHeld,(rA HO332.out),(by (with_reducible repeat (first | apply Kd.V_alloc | apply Kd.V_drewN | apply Kd.V_drew)); exact Kd.V_mono HO_315000.out (fun _ hk => ⟨hk.1.1,⟨hk.1.2.1,⟨hk.1.2.2.1,⟨hk.1.2.2.2.1,⟨hk.1.2.2.2.2,hk.2⟩⟩⟩⟩⟩)),(kA BK314.out),(kA BK315.out),(kA BK334.out),(kA BK335.out),GW334.out,GE334.out,NB314_334.out,NB334_314.out,NB315_334.out,NB334_315.out,NB335_334.out,NB334_335.out,GW335.out,GE335.out,NB314_335.out,NB335_314.out,NB315_335.out,NB335_315.out,bA⟩)
       rintro ⟨v331,gb334,gb335⟩ w41 ⟨hS_,h0_,h1_,h2_,h3_,h4_,h5_,h6_,h7_,h8_,h9_,h10_,h11_,h12_,h13_,h14_,h15_,h16_,h17_,h18_,h19_,h20_⟩
       have n0_ : Aside0 (Kd.R k71 71 w41 w.heap.size (fun k_ => (w.heap.size ≤ k_) ∧ k_ ≠ gb335) v331 t330) := ⟨h0_⟩
       have n1_ : Aside0 (Kd.V k71 71 w41 w.heap.size (fun k_ => (P0_0_ k_ ∨ w.heap.size ≤ k_) ∧ some k_ ≠ (v331 : Value).ownBlock ∧ k_ ≠ gb314 ∧ k_ ≠ gb315 ∧ k_ ≠ gb334 ∧ k_ ≠ gb335) (.slice A0_0 l0_0.length c0_0) l0_0) := ⟨h1_⟩
       have n2_ : Aside0 (w41.heap[gb314]? = some (.cells #[.slice A0_0 l0_0.length c0_0,.int .i64 a0_1] 28 (0,0))) := ⟨h2_⟩
       have n3_ : Aside0 (w41.heap[gb315]? = some (.cells #[.slice none 0 0,.int .i64 0] 28 (0,0))) := ⟨h3_⟩
       have n4_ : Aside0 (w41.heap[gb334]? = some (.cells #[.slice none 0 0,.int .i64 0] 28 (0,0))) := ⟨h4_⟩
       have n5_ : Aside0 (w41.heap[gb335]? = some (.cells #[.string (⟨#[]⟩ : ByteArray),.int .i64 0,.string (⟨#[]⟩ : ByteArray)] 71 (0,0))) := ⟨h5_⟩
       have n6_ : Aside0 (w.heap.size ≤ gb334) := ⟨h6_⟩
       have n7_ : Aside0 (w.heap.size ≤ gb334) := ⟨h7_⟩
       have n8_ : Aside0 (gb314 ≠ gb334) := ⟨h8_⟩
       have n9_ : Aside0 (gb334 ≠ gb314) := ⟨h9_⟩
       have n10_ : Aside0 (gb315 ≠ gb334) := ⟨h10_⟩
       have n11_ : Aside0 (gb334 ≠ gb315) := ⟨h11_⟩
       have n12_ : Aside0 (gb335 ≠ gb334) := ⟨h12_⟩
       have n13_ : Aside0 (gb334 ≠ gb335) := ⟨h13_⟩
       have n14_ : Aside0 (w.heap.size ≤ gb335) := ⟨h14_⟩
       have n15_ : Aside0 (w.heap.size ≤ gb335) := ⟨h15_⟩
       have n16_ : Aside0 (gb314 ≠ gb335) := ⟨h16_⟩
       have n17_ : Aside0 (gb335 ≠ gb314) := ⟨h17_⟩
       have n18_ : Aside0 (gb315 ≠ gb335) := ⟨h18_⟩
       have n19_ : Aside0 (gb335 ≠ gb315) := ⟨h19_⟩
       have n20_ : Aside0 (Below w.heap.size w w41) := ⟨h20_⟩
       clear HO_315000
       clear BK314
       clear BK315
       clear HB
       clear h0_ h1_ h2_ h3_ h4_ h5_ h6_ h7_ h8_ h9_ h10_ h11_ h12_ h13_ h14_ h15_ h16_ h17_ h18_ h19_ h20_
       have HO332 := n0_
       have HO_315000 := n1_
       have BK314 := n2_
       have BK315 := n3_
       have BK334 := n4_
       have BK335 := n5_
       have GW334 := n6_
       have GE334 := n7_
       have NB314_334 := n8_
       have NB334_314 := n9_
       have NB315_334 := n10_
       have NB334_315 := n11_
       have NB335_334 := n12_
       have NB334_335 := n13_
       have GW335 := n14_
       have GE335 := n15_
       have NB314_335 := n16_
       have NB335_314 := n17_
       have NB315_335 := n18_
       have NB335_315 := n19_
       have HB := n20_
       clear n0_ n1_ n2_ n3_ n4_ n5_ n6_ n7_ n8_ n9_ n10_ n11_ n12_ n13_ n14_ n15_ n16_ n17_ n18_ n19_ n20_
       have hHeld : w41.cell? ⟨gb314,0,none⟩ = some (.slice A0_0 l0_0.length c0_0) ∧ w41.cell? ⟨gb314,1,none⟩ = some (.int .i64 a0_1) := hS_
       obtain ⟨Ao42,co42,eo42⟩ := Kd.R_slice HO332.out
       (first | subst eo42 | (injection eo42 with f1_ f2_ f3_; have f4_ := f1_.symm; have f5_ := f3_.symm; clear f1_ f2_ f3_; subst f4_; subst f5_))
       refine norm_ (a':=?_) ?_ ?_
       rotate_left
       ·simp only [putAll,Act.put,setIfInBounds_toArray,set_cons_zero,set_cons_succ]
        rfl
       refine one_ (i:=9) (N:=none) (bm 11 1023) rfl rfl (one_of HT_.out (by kernel_rfl)) (by decide) (fun K hK => ?_)
       have hs43 : w41.cell? ⟨gb334,0,none⟩ = some (.slice none 0 0) := (blk_cell BK334.out 0).trans rfl
       have hfs43 := blk_frozen BK334.out 0
       have hns43_0 := NB314_334.out
       have hns43_1 := NB315_334.out
       have hns43_3 := NB335_334.out
       have hms43_0 := NB334_314.out
       have hms43_1 := NB334_315.out
       have hms43_3 := NB334_335.out
       have hs44 : w41.cell? ⟨gb334,1,none⟩ = some (.int .i64 0) := (blk_cell BK334.out 1).trans rfl
       have hfs44 := blk_frozen BK334.out 1
       have hns44_0 := NB314_334.out
       have hns44_1 := NB315_334.out
       have hns44_3 := NB335_334.out
       have hms44_0 := NB334_314.out
       have hms44_1 := NB334_315.out
       have hms44_3 := NB334_335.out
       refine skip_ (w1 := ?_) (by rfl) rfl ?_ ?_
       rotate_left
       ·go_simp
        rfl
       refine hK.out _ _ ⟨((cell_far (p:=⟨gb334,_,none⟩) NB314_334.out _).trans (((cell_far (p:=⟨gb334,_,none⟩) NB314_334.out _).trans (hHeld.1)))),((cell_far (p:=⟨gb334,_,none⟩) NB314_334.out _).trans (((cell_far (p:=⟨gb334,_,none⟩) NB314_334.out _).trans (hHeld.2))))⟩ (fun hHeld => ?_)
       clear hK K
       refine one_ (i:=10) (N:=none) (bm 11 2047) rfl rfl (one_of HT_.out (by kernel_rfl)) (by decide) (fun K hK => ?_)
       have hs45 : w41.cell? ⟨gb335,0,none⟩ = some (.string (⟨#[]⟩ : ByteArray)) := (blk_cell BK335.out 0).trans rfl
       have hfs45 := blk_frozen BK335.out 0
       have hns45_0 := NB314_335.out
       have hns45_1 := NB315_335.out
       have hns45_2 := NB334_335.out
       have hms45_0 := NB335_314.out
       have hms45_1 := NB335_315.out
       have hms45_2 := NB335_334.out
       have hs46 : w41.cell? ⟨gb335,1,none⟩ = some (.int .i64 0) := (blk_cell BK335.out 1).trans rfl
       have hfs46 := blk_frozen BK335.out 1
       have hns46_0 := NB314_335.out
       have hns46_1 := NB315_335.out
       have hns46_2 := NB334_335.out
       have hms46_0 := NB335_314.out
       have hms46_1 := NB335_315.out
       have hms46_2 := NB335_334.out
       have hs47 : w41.cell? ⟨gb335,2,none⟩ = some (.string (⟨#[]⟩ : ByteArray)) := (blk_cell BK335.out 2).trans rfl
       have hfs47 := blk_frozen BK335.out 2
       have hns47_0 := NB314_335.out
       have hns47_1 := NB315_335.out
       have hns47_2 := NB334_335.out
       have hms47_0 := NB335_314.out
       have hms47_1 := NB335_315.out
       have hms47_2 := NB335_334.out
       refine skip_ (w1 := ?_) (by rfl) rfl ?_ ?_
       rotate_left
       ·go_simp
        rfl
       refine hK.out _ _ ⟨((cell_far (p:=⟨gb335,_,none⟩) NB314_335.out _).trans (((cell_far (p:=⟨gb335,_,none⟩) NB314_335.out _).trans (((cell_far (p:=⟨gb335,_,none⟩) NB314_335.out _).trans (hHeld.1)))))),((cell_far (p:=⟨gb335,_,none⟩) NB314_335.out _).trans (((cell_far (p:=⟨gb335,_,none⟩) NB314_335.out _).trans (((cell_far (p:=⟨gb335,_,none⟩) NB314_335.out _).trans (hHeld.2))))))⟩ (fun hHeld => ?_)
       clear hK K
       refine done_ (done_of HT_.out (by kernel_rfl)) ?_
       have n0_ : Aside0 (Kd.V k71 71 (((((w41.setCell ⟨gb334,0,none⟩ (.slice Ao42 t330.length co42)).setCell ⟨gb334,1,none⟩ (.int .i64 t333)).setCell ⟨gb335,0,none⟩ (.string a1)).setCell ⟨gb335,1,none⟩ (.int .i64 a0_1)).setCell ⟨gb335,2,none⟩ (.string a2)) w.heap.size (fun k_ => (P0_0_ k_ ∨ w.heap.size ≤ k_) ∧ some k_ ≠ (.slice Ao42 t330.length co42 : Value).ownBlock ∧ k_ ≠ gb314 ∧ k_ ≠ gb315 ∧ k_ ≠ gb334 ∧ k_ ≠ gb335) (.slice A0_0 l0_0.length c0_0) l0_0) := ⟨by (with_reducible repeat (first | apply Kd.V_alloc | apply Kd.V_drewN | apply Kd.V_drew)); exact Kd.V_mono (Kd.V_far (p:=⟨gb335,2,none⟩) (Kd.V_far (p:=⟨gb335,1,none⟩) (Kd.V_far (p:=⟨gb335,0,none⟩) (Kd.V_far (p:=⟨gb334,1,none⟩) (Kd.V_far (p:=⟨gb334,0,none⟩) (Kd.V_mono (Kd.V_mono HO_315000.out (fun k_ hk => (⟨hk,hk.2.2.2.2.1⟩ : _ ∧ k_ ≠ gb334))) (fun k_ hk => (⟨hk,hk.1.2.2.2.2.2⟩ : _ ∧ k_ ≠ gb335))) (fun _ hk => hk.1.2) (.slice Ao42 t330.length co42)) (fun _ hk => hk.1.2) (.int .i64 t333)) (fun _ hk => hk.2) (.string a1)) (fun _ hk => hk.2) (.int .i64 a0_1)) (fun _ hk => hk.2) (.string a2)) (fun _ hk => ⟨hk.1.1.1,⟨hk.1.1.2.1,⟨hk.1.1.2.2.1,⟨hk.1.1.2.2.2.1,⟨hk.1.1.2.2.2.2.1,hk.1.1.2.2.2.2.2⟩⟩⟩⟩⟩)⟩
       have n1_ : Aside0 (Kd.R k71 71 (((((w41.setCell ⟨gb334,0,none⟩ (.slice Ao42 t330.length co42)).setCell ⟨gb334,1,none⟩ (.int .i64 t333)).setCell ⟨gb335,0,none⟩ (.string a1)).setCell ⟨gb335,1,none⟩ (.int .i64 a0_1)).setCell ⟨gb335,2,none⟩ (.string a2)) w.heap.size (fun k_ => (w.heap.size ≤ k_) ∧ k_ ≠ gb335) (.slice Ao42 t330.length co42) t330) := ⟨by (with_reducible repeat (first | apply Kd.R_alloc | apply Kd.R_drewN | apply Kd.R_drew)); exact Kd.R_mono (Kd.R_far (p:=⟨gb335,2,none⟩) (Kd.R_far (p:=⟨gb335,1,none⟩) (Kd.R_far (p:=⟨gb335,0,none⟩) (Kd.R_far (p:=⟨gb334,1,none⟩) (Kd.R_far (p:=⟨gb334,0,none⟩) (Kd.R_mono (Kd.R_types HO332.out BK334.out (by decide)) (fun k_ hk => (⟨hk,hk.1.2⟩ : _ ∧ k_ ≠ gb335))) (fun _ hk => hk.1.2) (.slice Ao42 t330.length co42)) (fun _ hk => hk.1.2) (.int .i64 t333)) (fun _ hk => hk.2) (.string a1)) (fun _ hk => hk.2) (.int .i64 a0_1)) (fun _ hk => hk.2) (.string a2)) (fun _ hk => ⟨hk.1.1.1,hk.1.1.2⟩)⟩
       have n2_ : Aside0 ((((((w41.setCell ⟨gb334,0,none⟩ (.slice Ao42 t330.length co42)).setCell ⟨gb334,1,none⟩ (.int .i64 t333)).setCell ⟨gb335,0,none⟩ (.string a1)).setCell ⟨gb335,1,none⟩ (.int .i64 a0_1)).setCell ⟨gb335,2,none⟩ (.string a2)).heap[gb314]? = some (.cells #[.slice A0_0 l0_0.length c0_0,.int .i64 a0_1] 28 (0,0))) := ⟨kF BK314.out⟩
       have n3_ : Aside0 ((((((w41.setCell ⟨gb334,0,none⟩ (.slice Ao42 t330.length co42)).setCell ⟨gb334,1,none⟩ (.int .i64 t333)).setCell ⟨gb335,0,none⟩ (.string a1)).setCell ⟨gb335,1,none⟩ (.int .i64 a0_1)).setCell ⟨gb335,2,none⟩ (.string a2)).heap[gb315]? = some (.cells #[.slice none 0 0,.int .i64 0] 28 (0,0))) := ⟨kF BK315.out⟩
       have n4_ : Aside0 ((((((w41.setCell ⟨gb334,0,none⟩ (.slice Ao42 t330.length co42)).setCell ⟨gb334,1,none⟩ (.int .i64 t333)).setCell ⟨gb335,0,none⟩ (.string a1)).setCell ⟨gb335,1,none⟩ (.int .i64 a0_1)).setCell ⟨gb335,2,none⟩ (.string a2)).heap[gb334]? = some (.cells #[.slice Ao42 t330.length co42,.int .i64 t333] 28 (0,0))) := ⟨by (with_reducible repeat (first | refine blk_drewN ?_ _ | refine blk_drew ?_ | refine blk_alloc ?_ _)); refine blk_far ?_ NB334_335.out _; (with_reducible repeat (first | refine blk_drewN ?_ _ | refine blk_drew ?_ | refine blk_alloc ?_ _)); refine blk_far ?_ NB334_335.out _; (with_reducible repeat (first | refine blk_drewN ?_ _ | refine blk_drew ?_ | refine blk_alloc ?_ _)); refine blk_far ?_ NB334_335.out _; (with_reducible repeat (first | refine blk_drewN ?_ _ | refine blk_drew ?_ | refine blk_alloc ?_ _)); refine blk_put (cs := #[.slice Ao42 t330.length co42,.int .i64 0]) ?_ 1 _ rfl; (with_reducible repeat (first | refine blk_drewN ?_ _ | refine blk_drew ?_ | refine blk_alloc ?_ _)); refine blk_put (cs := #[.slice none 0 0,.int .i64 0]) ?_ 0 _ rfl; (with_reducible repeat (first | refine blk_drewN ?_ _ | refine blk_drew ?_ | refine blk_alloc ?_ _)); exact BK334.out⟩
       have n5_ : Aside0 ((((((w41.setCell ⟨gb334,0,none⟩ (.slice Ao42 t330.length co42)).setCell ⟨gb334,1,none⟩ (.int .i64 t333)).setCell ⟨gb335,0,none⟩ (.string a1)).setCell ⟨gb335,1,none⟩ (.int .i64 a0_1)).setCell ⟨gb335,2,none⟩ (.string a2)).heap[gb335]? = some (.cells #[.string a1,.int .i64 a0_1,.string a2] 71 (0,0))) := ⟨by (with_reducible repeat (first | refine blk_drewN ?_ _ | refine blk_drew ?_ | refine blk_alloc ?_ _)); refine blk_put (cs := #[.string a1,.int .i64 a0_1,.string (⟨#[]⟩ : ByteArray)]) ?_ 2 _ rfl; (with_reducible repeat (first | refine blk_drewN ?_ _ | refine blk_drew ?_ | refine blk_alloc ?_ _)); refine blk_put (cs := #[.string a1,.int .i64 0,.string (⟨#[]⟩ : ByteArray)]) ?_ 1 _ rfl; (with_reducible repeat (first | refine blk_drewN ?_ _ | refine blk_drew ?_ | refine blk_alloc ?_ _)); refine blk_put (cs := #[.string (⟨#[]⟩ : ByteArray),.int .i64 0,.string (⟨#[]⟩ : ByteArray)]) ?_ 0 _ rfl; (with_reducible repeat (first | refine blk_drewN ?_ _ | refine blk_drew ?_ | refine blk_alloc ?_ _)); refine blk_far ?_ NB335_334.out _; (with_reducible repeat (first | refine blk_drewN ?_ _ | refine blk_drew ?_ | refine blk_alloc ?_ _)); refine blk_far ?_ NB335_334.out _; (with_reducible repeat (first | refine blk_drewN ?_ _ | refine blk_drew ?_ | refine blk_alloc ?_ _)); exact BK335.out⟩
       have n6_ : Aside0 (Below w.heap.size w (((((w41.setCell ⟨gb334,0,none⟩ (.slice Ao42 t330.length co42)).setCell ⟨gb334,1,none⟩ (.int .i64 t333)).setCell ⟨gb335,0,none⟩ (.string a1)).setCell ⟨gb335,1,none⟩ (.int .i64 a0_1)).setCell ⟨gb335,2,none⟩ (.string a2))) := ⟨bA⟩
       (try clear HO_315000)
       (try clear HO332)
       (try clear BK314)
       (try clear BK315)
       (try clear BK334)
       (try clear BK335)
       (try clear HB)
       generalize (((((w41.setCell ⟨gb334,0,none⟩ (.slice Ao42 t330.length co42)).setCell ⟨gb334,1,none⟩ (.int .i64 t333)).setCell ⟨gb335,0,none⟩ (.string a1)).setCell ⟨gb335,1,none⟩ (.int .i64 a0_1)).setCell ⟨gb335,2,none⟩ (.string a2)) = w48 at n0_ n1_ n2_ n3_ n4_ n5_ n6_ ⊢
       have HO_315000 := n0_
       have HO332 := n1_
       have BK314 := n2_
       have BK315 := n3_
       have BK334 := n4_
       have BK335 := n5_
       have HB := n6_
       clear n0_ n1_ n2_ n3_ n4_ n5_ n6_
       have hnb49 := NB334_314.out
       have hnc49 := NB314_334.out
       have hnb50 := NB334_315.out
       have hnc50 := NB315_334.out
       have hnb51 := NB334_335.out
       have hnc51 := NB335_334.out
       have hcz52_0 : w48.cell? ⟨gb334,0,none⟩ = some (.slice Ao42 t330.length co42) := (blk_cell BK334.out 0).trans rfl
       have hcz52_1 : w48.cell? ⟨gb334,1,none⟩ = some (.int .i64 t333) := (blk_cell BK334.out 1).trans rfl
       have hfz52_0 := blk_frozen BK334.out 0
       have hfz52_1 := blk_frozen BK334.out 1
       have hnb53 := NB335_314.out
       have hnc53 := NB314_335.out
       have hnb54 := NB335_315.out
       have hnc54 := NB315_335.out
       have hcz55_0 : w48.cell? ⟨gb335,0,none⟩ = some (.string a1) := (blk_cell BK335.out 0).trans rfl
       have hcz55_1 : w48.cell? ⟨gb335,1,none⟩ = some (.int .i64 a0_1) := (blk_cell BK335.out 1).trans rfl
       have hcz55_2 : w48.cell? ⟨gb335,2,none⟩ = some (.string a2) := (blk_cell BK335.out 2).trans rfl
       have hfz55_0 := blk_frozen BK335.out 0
       have hfz55_1 := blk_frozen BK335.out 1
       have hfz55_2 := blk_frozen BK335.out 2
       have p36 : 0 ≤ (t316 : Int) := of_decide_eq_true (by first | (with_reducible assumption) | assumption)
       have q36 : (t316 : Int) < ((t330.length : Int) : Int) := of_decide_eq_true (by first | (with_reducible assumption) | assumption)
       obtain ⟨go36,co36,eo36,gb36,gl36,cl36,HG36⟩ := Kd.R_form HO332.out (by omega)
       (first | cases eo36 | (injection eo36 with ea_ en_ ec_; (first | subst ea_ | (injection ea_ with ea_; subst ea_)); subst ec_; clear en_))
       have GB36 := Aside0.mk gb36
       have GG36 := Aside0.mk HG36
       clear gb36 gl36 HG36
       obtain ⟨ce36,hcl36,hM36,hcc36,hfr36⟩ := Kd.R_elem HO332.out z71 (t316 : Int) p36 q36
       obtain rfl := k71_openM hM36
       have hx36_0 : w48.cell? ⟨go36,(t316 : Int).toNat * 3,none⟩ = some (.string ((rd_T71 t330 t316).f0)) := hcc36 0 _ rfl
       have hx36_1 : w48.cell? ⟨go36,(t316 : Int).toNat * 3 + 1,none⟩ = some (.int .i64 ((rd_T71 t330 t316).f1)) := hcc36 1 _ rfl
       have hx36_2 : w48.cell? ⟨go36,(t316 : Int).toNat * 3 + 2,none⟩ = some (.string ((rd_T71 t330 t316).f2)) := hcc36 2 _ rfl
       have hf36_0 : w48.frozen? ⟨go36,(t316 : Int).toNat * 3,none⟩ = false := hfr36 0
       have hf36_1 : w48.frozen? ⟨go36,(t316 : Int).toNat * 3 + 1,none⟩ = false := hfr36 1
       have hf36_2 : w48.frozen? ⟨go36,(t316 : Int).toNat * 3 + 2,none⟩ = false := hfr36 2
       clear hcl36 hcc36 hfr36 hM36
       replace p36 := eq_true p36
       replace q36 := eq_true q36
       have HX56 := Aside0.mk (show Kd.R k71 71 w48 w.heap.size (fun k_ => (w.heap.size ≤ k_) ∧ k_ ≠ gb335) (.slice (some ⟨go36,0,none⟩) t330.length co42) t330 from (rA HO332.out))
       obtain ⟨ce56,hcl56,hM56,hcc56,hfr56⟩ := Kd.R_elem HX56.out z71 (t316 : Int) (of_decide_eq_true (by first | (with_reducible assumption) | assumption)) (by have h_ : (t316 : Int) < ((t330.length : Int) : Int) := of_decide_eq_true (by first | (with_reducible assumption) | assumption); first | exact h_ | (have e_ := (Kd.R_reads' HO332.out).1; omega) | simpa using h_)
       obtain rfl := k71_openM hM56
       have HP56 := Kd.R_seg HX56.out (t316 : Int) (of_decide_eq_true (by first | (with_reducible assumption) | assumption)) (by have h_ : (t316 : Int) < ((t330.length : Int) : Int) := of_decide_eq_true (by first | (with_reducible assumption) | assumption); first | exact h_ | (have e_ := (Kd.R_reads' HO332.out).1; omega) | simpa using h_) (seg := [.string a1,.int .i64 a0_1,.string a2]) (j:=0) hcl56 hcc56 (show 3 ≤ 3 from by decide) (x':=(⟨a1,a0_1,a2⟩ : S71)) (k71_mkM _ _ _ (⟨a1,a0_1,a2⟩ : S71) ) (fun _ hk => hk)
       have hx56_0 := hcc56 0 _ rfl
       (try simp only [show (k71).sz = 3 from rfl,Nat.mul_one,Nat.add_zero] at hx56_0)
       have hf56_0 := hfr56 0
       (try simp only [show (k71).sz = 3 from rfl,Nat.mul_one,Nat.add_zero] at hf56_0)
       have hx56_1 := hcc56 1 _ rfl
       (try simp only [show (k71).sz = 3 from rfl,Nat.mul_one,Nat.add_zero] at hx56_1)
       have hf56_1 := hfr56 1
       (try simp only [show (k71).sz = 3 from rfl,Nat.mul_one,Nat.add_zero] at hf56_1)
       have hx56_2 := hcc56 2 _ rfl
       (try simp only [show (k71).sz = 3 from rfl,Nat.mul_one,Nat.add_zero] at hx56_2)
       have hf56_2 := hfr56 2
       (try simp only [show (k71).sz = 3 from rfl,Nat.mul_one,Nat.add_zero] at hf56_2)
       clear hcl56 hcc56 hfr56 hM56
       try go_wp2_with (first | ((with_reducible refine gate_store (t:=71) (p:=58) rfl ?_); refine store_event (t:=71) (p:=58) (v:=?vo_w57) (w1 := (((w48.setCell ⟨go36,(t316 : Int).toNat * 3,none⟩ (.string a1)).setCell ⟨go36,(t316 : Int).toNat * 3 + 1,none⟩ (.int .i64 a0_1)).setCell ⟨go36,(t316 : Int).toNat * 3 + 2,none⟩ (.string a2))) ?hg ?ho ?hn ?hr ?_; (case ho => rfl); (case hg => rfl); (case hn => rfl); (case hr => first | (go_simp; done) | (go_simp; rfl)); intro w57 hw; have hg : w48.grownBy w57 (some go36) := (by rw [hw]; exact HP56.2); have hp_ : Kd.R k71 71 w57 w.heap.size (fun k_ => (w.heap.size ≤ k_) ∧ k_ ≠ gb335) (.slice (some ⟨go36,0,none⟩) t330.length co42) y336 := (by rw [hw,Ny336.out]; exact HP56.1); clear HP56; have n0_ := Aside0.mk (Kd.V_afterv (v:=(.slice (some ⟨go36,0,none⟩) t330.length co42)) (v1 := (.slice (some ⟨go36,0,none⟩) t330.length co42)) (ok := (fun k_ => (P0_0_ k_ ∨ w.heap.size ≤ k_) ∧ k_ ≠ gb314 ∧ k_ ≠ gb315 ∧ k_ ≠ gb334 ∧ k_ ≠ gb335)) (by (with_reducible repeat (first | apply Kd.V_alloc | apply Kd.V_drewN | apply Kd.V_drew)); exact Kd.V_mono HO_315000.out (fun _ hk => ⟨⟨hk.1,⟨hk.2.2.1,⟨hk.2.2.2.1,⟨hk.2.2.2.2.1,hk.2.2.2.2.2⟩⟩⟩⟩,hk.2.1⟩)) hg (.inl rfl)); have n1_ := Aside0.mk (blk_grown (g:=gb314) (o:=.cells #[.slice A0_0 l0_0.length c0_0,.int .i64 a0_1] 28 (0,0)) (kA BK314.out) hg (Kd.R_ne HO332.out BK314.out (by decide))); have n2_ := Aside0.mk (blk_grown (g:=gb315) (o:=.cells #[.slice none 0 0,.int .i64 0] 28 (0,0)) (kA BK315.out) hg (Kd.R_ne HO332.out BK315.out (by decide))); have n3_ := Aside0.mk (hp_); have n4_ := Aside0.mk (blk_grown (g:=gb334) (o:=.cells #[.slice (some ⟨go36,0,none⟩) t330.length co42,.int .i64 t333] 28 (0,0)) (kA BK334.out) hg (Kd.R_ne HO332.out BK334.out (by decide))); have n5_ := Aside0.mk (blk_grown (g:=gb335) (o:=.cells #[.string a1,.int .i64 a0_1,.string a2] 71 (0,0)) (kA BK335.out) hg (Kd.R_away HO332.out (fun _ hk => hk.2))); have n6_ := Aside0.mk ((by rw [hw]; exact below_set (below_set (below_set (HB.out) GB36.out) GB36.out) GB36.out : Below w.heap.size w w57)); clear HO_315000; clear BK314; clear BK315; clear HO332; clear BK334; clear BK335; clear HB; have HO_315000 := n0_; have BK314 := n1_; have BK315 := n2_; have HO332 := n3_; have BK334 := n4_; have BK335 := n5_; have HB := n6_; clear n0_ n1_ n2_ n3_ n4_ n5_ n6_; clear hg hw hp_; have hcz58_0 : w57.cell? ⟨gb334,0,none⟩ = some (.slice (some ⟨go36,0,none⟩) t330.length co42) := (blk_cell BK334.out 0).trans rfl; have hcz58_1 : w57.cell? ⟨gb334,1,none⟩ = some (.int .i64 t333) := (blk_cell BK334.out 1).trans rfl; have hfz58_0 := blk_frozen BK334.out 0; have hfz58_1 := blk_frozen BK334.out 1))
       have n0_ : Aside0 (Kd.V k71 71 (w57.setCell ⟨gb334,1,none⟩ (.int .i64 (wrap64 (t333 + 1)))) w.heap.size (fun k_ => (P0_0_ k_ ∨ w.heap.size ≤ k_) ∧ some k_ ≠ (.slice (some ⟨go36,0,none⟩) t330.length co42 : Value).ownBlock ∧ k_ ≠ gb314 ∧ k_ ≠ gb315 ∧ k_ ≠ gb334 ∧ k_ ≠ gb335) (.slice A0_0 l0_0.length c0_0) l0_0) := ⟨by (with_reducible repeat (first | apply Kd.V_alloc | apply Kd.V_drewN | apply Kd.V_drew)); exact Kd.V_mono (Kd.V_far (p:=⟨gb334,1,none⟩) (Kd.V_mono HO_315000.out (fun k_ hk => (⟨hk,hk.1.2.2.2.1⟩ : _ ∧ k_ ≠ gb334))) (fun _ hk => hk.2) (.int .i64 (wrap64 (t333 + 1)))) (fun _ hk => ⟨hk.1.1.1,⟨hk.1.2,⟨hk.1.1.2.1,⟨hk.1.1.2.2.1,⟨hk.1.1.2.2.2.1,hk.1.1.2.2.2.2⟩⟩⟩⟩⟩)⟩
       have n1_ : Aside0 (Kd.R k71 71 (w57.setCell ⟨gb334,1,none⟩ (.int .i64 (wrap64 (t333 + 1)))) w.heap.size (fun k_ => (w.heap.size ≤ k_) ∧ k_ ≠ gb335) (.slice (some ⟨go36,0,none⟩) t330.length co42) y336) := ⟨by (with_reducible repeat (first | apply Kd.R_alloc | apply Kd.R_drewN | apply Kd.R_drew)); exact Kd.R_mono (Kd.R_far (p:=⟨gb334,1,none⟩) (Kd.R_types HO332.out BK334.out (by decide)) (fun _ hk => hk.2) (.int .i64 (wrap64 (t333 + 1)))) (fun _ hk => ⟨hk.1.1,hk.1.2⟩)⟩
       have n2_ : Aside0 ((w57.setCell ⟨gb334,1,none⟩ (.int .i64 (wrap64 (t333 + 1)))).heap[gb314]? = some (.cells #[.slice A0_0 l0_0.length c0_0,.int .i64 a0_1] 28 (0,0))) := ⟨kF BK314.out⟩
       have n3_ : Aside0 ((w57.setCell ⟨gb334,1,none⟩ (.int .i64 (wrap64 (t333 + 1)))).heap[gb315]? = some (.cells #[.slice none 0 0,.int .i64 0] 28 (0,0))) := ⟨kF BK315.out⟩
       have n4_ : Aside0 ((w57.setCell ⟨gb334,1,none⟩ (.int .i64 (wrap64 (t333 + 1)))).heap[gb334]? = some (.cells #[.slice (some ⟨go36,0,none⟩) t330.length co42,.int .i64 (wrap64 (t333 + 1))] 28 (0,0))) := ⟨by (with_reducible repeat (first | refine blk_drewN ?_ _ | refine blk_drew ?_ | refine blk_alloc ?_ _)); refine blk_put (cs := #[.slice (some ⟨go36,0,none⟩) t330.length co42,.int .i64 t333]) ?_ 1 _ rfl; (with_reducible repeat (first | refine blk_drewN ?_ _ | refine blk_drew ?_ | refine blk_alloc ?_ _)); exact BK334.out⟩
       have n5_ : Aside0 ((w57.setCell ⟨gb334,1,none⟩ (.int .i64 (wrap64 (t333 + 1)))).heap[gb335]? = some (.cells #[.string a1,.int .i64 a0_1,.string a2] 71 (0,0))) := ⟨kF BK335.out⟩
       have n6_ : Aside0 (Below w.heap.size w (w57.setCell ⟨gb334,1,none⟩ (.int .i64 (wrap64 (t333 + 1))))) := ⟨bA⟩
       (try clear HO_315000)
       (try clear HO332)
       (try clear BK314)
       (try clear BK315)
       (try clear BK334)
       (try clear BK335)
       (try clear HB)
       generalize (w57.setCell ⟨gb334,1,none⟩ (.int .i64 (wrap64 (t333 + 1)))) = w59 at n0_ n1_ n2_ n3_ n4_ n5_ n6_ ⊢
       have HO_315000 := n0_
       have HO332 := n1_
       have BK314 := n2_
       have BK315 := n3_
       have BK334 := n4_
       have BK335 := n5_
       have HB := n6_
       clear n0_ n1_ n2_ n3_ n4_ n5_ n6_
       have n0_ := Aside0.mk (Kd.V_drew HO_315000.out)
       have n1_ := Aside0.mk (Kd.R_drew HO332.out)
       have n2_ := Aside0.mk (blk_drew BK314.out)
       have n3_ := Aside0.mk (blk_drew BK315.out)
       have n4_ := Aside0.mk (blk_drew BK334.out)
       have n5_ := Aside0.mk (blk_drew BK335.out)
       have n6_ := Aside0.mk (below_drew1 HB.out)
       clear HO_315000
       clear HO332
       clear BK314
       clear BK315
       clear BK334
       clear BK335
       clear HB
       have HO_315000 := n0_
       have HO332 := n1_
       have BK314 := n2_
       have BK315 := n3_
       have BK334 := n4_
       have BK335 := n5_
       have HB := n6_
       clear n0_ n1_ n2_ n3_ n4_ n5_ n6_
       refine start_ (n:=6) (S:=fun w' => w'.cell? ⟨gb334,0,none⟩ = some (.slice (some ⟨go36,0,none⟩) t330.length co42) ∧ w'.cell? ⟨gb334,1,none⟩ = some (.int .i64 (wrap64 (t333 + 1))) ∧ w'.cell? ⟨gb314,0,none⟩ = some (.slice A0_0 l0_0.length c0_0) ∧ w'.cell? ⟨gb314,1,none⟩ = some (.int .i64 a0_1)) (ds := []) (bm 6 0) (by kernel_rfl) rfl rfl ⟨(blk_cell BK334.out 0).trans rfl,(blk_cell BK334.out 1).trans rfl,(blk_cell BK314.out 0).trans rfl,(blk_cell BK314.out 1).trans rfl⟩ (fun hHeld => ?_)
       generalize w59.drew = w60 at HO_315000 HO332 BK314 BK315 BK334 BK335 HB hHeld ⊢
       refine pure_ (i:=1) (N:=some 71) (v:=?_) (a':=?_) (bm 6 2) rfl rfl (by kernel_rfl) (fun _ _ _ h => h) (Or.inl ⟨by rfl,?_⟩) ?_ ?_
       rotate_left
       ·intro w'
        go_simp
        with_reducible rfl
       rotate_left
       ·simp only [Act.put,setIfInBounds_toArray,set_cons_zero,set_cons_succ,i64_w,i32_w]
        rfl
       refine take_ (i:=0) (N:=some 70) (v:=?_) (a':=?_) (bm 6 3) rfl rfl (by kernel_rfl) (fun _ _ _ h => h) (Or.inl ⟨by rfl,?_⟩) hHeld ?_ ?_
       rotate_left
       ·rintro w' ⟨s0,s1,s2,s3⟩
        go_simp
        with_reducible rfl
       rotate_left
       ·simp only [Act.put,setIfInBounds_toArray,set_cons_zero,set_cons_succ,i64_w,i32_w]
        rfl
       refine take_ (i:=2) (N:=some 72) (v:=?_) (a':=?_) (bm 6 7) rfl rfl (by kernel_rfl) (fun _ _ _ h => h) (Or.inl ⟨by rfl,?_⟩) hHeld ?_ ?_
       rotate_left
       ·rintro w' ⟨s0,s1,s2,s3⟩
        go_simp
        with_reducible rfl
       rotate_left
       ·simp only [Act.put,setIfInBounds_toArray,set_cons_zero,set_cons_succ,i64_w,i32_w]
        rfl
       refine one_ (i:=3) (N:=none) (bm 6 15) rfl rfl (by kernel_rfl) (by decide) (fun K hK => ?_)
       have hs61 : w60.cell? ⟨gb315,0,none⟩ = some (.slice none 0 0) := (blk_cell BK315.out 0).trans rfl
       have hfs61 := blk_frozen BK315.out 0
       have hns61_0 := NB314_315.out
       have hns61_2 := NB334_315.out
       have hns61_3 := NB335_315.out
       have hms61_0 := NB315_314.out
       have hms61_2 := NB315_334.out
       have hms61_3 := NB315_335.out
       have hs62 : w60.cell? ⟨gb315,1,none⟩ = some (.int .i64 0) := (blk_cell BK315.out 1).trans rfl
       have hfs62 := blk_frozen BK315.out 1
       have hns62_0 := NB314_315.out
       have hns62_2 := NB334_315.out
       have hns62_3 := NB335_315.out
       have hms62_0 := NB315_314.out
       have hms62_2 := NB315_334.out
       have hms62_3 := NB315_335.out
       refine skip_ (w1 := ?_) (by rfl) rfl ?_ ?_
       rotate_left
       ·go_simp
        rfl
       refine hK.out _ _ ⟨((cell_far (p:=⟨gb315,_,none⟩) NB334_315.out _).trans (((cell_far (p:=⟨gb315,_,none⟩) NB334_315.out _).trans (hHeld.1)))),((cell_far (p:=⟨gb315,_,none⟩) NB334_315.out _).trans (((cell_far (p:=⟨gb315,_,none⟩) NB334_315.out _).trans (hHeld.2.1)))),((cell_far (p:=⟨gb315,_,none⟩) NB314_315.out _).trans (((cell_far (p:=⟨gb315,_,none⟩) NB314_315.out _).trans (hHeld.2.2.1)))),((cell_far (p:=⟨gb315,_,none⟩) NB314_315.out _).trans (((cell_far (p:=⟨gb315,_,none⟩) NB314_315.out _).trans (hHeld.2.2.2))))⟩ (fun hHeld => ?_)
       clear hK K
       refine pure_ (i:=4) (N:=some 7) (v:=?_) (a':=?_) (bm 6 31) rfl rfl (by kernel_rfl) (fun _ _ _ h => h) (Or.inl ⟨by rfl,?_⟩) ?_ ?_
       rotate_left
       ·intro w'
        go_simp
        with_reducible rfl
       rotate_left
       ·simp only [Act.put,setIfInBounds_toArray,set_cons_zero,set_cons_succ,i64_w,i32_w]
        rfl
       refine pure_ (i:=5) (N:=some 8) (v:=?_) (a':=?_) (bm 6 63) rfl rfl (by kernel_rfl) (fun _ _ _ h => h) (Or.inl ⟨by rfl,?_⟩) ?_ ?_
       rotate_left
       ·intro w'
        go_simp
        with_reducible rfl
       rotate_left
       ·simp only [Act.put,setIfInBounds_toArray,set_cons_zero,set_cons_succ,i64_w,i32_w]
        rfl
       refine done_ (by kernel_rfl) ?_
       try go_wp2
       refine bodyPost_ret (results_ctt rfl _ _ gb315 28 #[.slice (some ⟨go36,0,none⟩) t330.length co42,.int .i64 (wrap64 (t333 + 1))] (0,0) _ rfl (by (with_reducible repeat (first | refine blk_drewN ?_ _ | refine blk_drew ?_ | refine blk_alloc ?_ _)); refine blk_put (cs := #[.slice (some ⟨go36,0,none⟩) t330.length co42,.int .i64 0]) ?_ 1 _ rfl; (with_reducible repeat (first | refine blk_drewN ?_ _ | refine blk_drew ?_ | refine blk_alloc ?_ _)); refine blk_put (cs := #[.slice none 0 0,.int .i64 0]) ?_ 0 _ rfl; (with_reducible repeat (first | refine blk_drewN ?_ _ | refine blk_drew ?_ | refine blk_alloc ?_ _)); exact BK315.out) Try.underlying28 rfl (by kernel_rfl)) rfl ?_
       exact ⟨_,by first | rfl | (simp only [i64_w,i32_w] <;> rfl) | (simp [errW_none,errW_some] <;> rfl) | (simp [*,errW_none,errW_some] <;> rfl),Kd.V_mono (Kd.R_V (by (with_reducible repeat (first | apply Kd.R_alloc | apply Kd.R_drewN | apply Kd.R_drew)); exact Kd.R_mono (Kd.R_far (p:=⟨gb315,1,none⟩) (Kd.R_far (p:=⟨gb315,0,none⟩) (Kd.R_types HO332.out BK315.out (by decide)) (fun _ hk => hk.2) (.slice (some ⟨go36,0,none⟩) t330.length co42)) (fun _ hk => hk.2) (.int .i64 (wrap64 (t333 + 1)))) (fun _ hk => hk.1.1))) (fun k_ hk => by first | exact ⟨(.inr (hk.1)),hk.2⟩ | exact (.inr (hk))),bA⟩
      ·rw [if_neg c35] at H
       exact absurd H (by simp)
     ·rw [if_neg c34] at H
      exact absurd H (by simp)
    ·replace c33 := Bool.eq_false_iff.mpr c33
     subst c33
     rw [if_neg (show ¬ (false = true) by decide)] at H
     by_cases c63 : t330.length < 3518437208000 ∧ 0 ≤ t316 ∧ t316 ≤ (t330.length : Int)
     ·rw [if_pos c63] at H
      have LMc63 := Aside0.mk c63
      clear c63
      obtain ⟨y337,hy337⟩ : ∃ y_ : List (S71),y_ = (t330.take (t316 : Int).toNat ++ (⟨a1,a0_1,a2⟩ : S71) :: t330.drop (t316 : Int).toNat) := ⟨_,rfl⟩
      replace H : (some (y337,wrap64 (t333 + 1),a0_1,0)) = some (r1,r2,r3,r4) := by first | (rw [hy337]; with_reducible exact H) | (have H2_ := (Option.bind_some _ _).symm.trans H; rw [hy337]; with_reducible exact H2_) | (have H2_ := (Option.bind_some _ _).symm.trans H; with_reducible exact H2_) | with_reducible exact H | (rw [hy337]; exact H) | exact H
      have Ny337 := Aside0.mk hy337
      clear hy337
      simp only [Option.some.injEq,Prod.mk.injEq] at H
      obtain ⟨rfl,rfl,rfl,rfl⟩ := H
      try go_wp2
      have n0_ := Aside0.mk (Kd.V_drew HO_315000.out)
      have n1_ := Aside0.mk (blk_drew BK314.out)
      have n2_ := Aside0.mk (blk_drew BK315.out)
      have n3_ := Aside0.mk (below_drew1 HB.out)
      clear HO_315000
      clear BK314
      clear BK315
      clear HB
      have HO_315000 := n0_
      have BK314 := n1_
      have BK315 := n2_
      have HB := n3_
      clear n0_ n1_ n2_ n3_
      refine start_ (n:=11) (S:=fun w' => w'.cell? ⟨gb314,0,none⟩ = some (.slice A0_0 l0_0.length c0_0) ∧ w'.cell? ⟨gb314,1,none⟩ = some (.int .i64 a0_1)) (ds := []) (bm 11 0) (by kernel_rfl) rfl rfl ⟨(blk_cell BK314.out 0).trans rfl,(blk_cell BK314.out 1).trans rfl⟩ (fun hHeld => ?_); refine with_tabW impl_Store_put.tab5 impl_Store_put.bits5 (fun HT_ HW_ => ?_)
      generalize wc.drew = w64 at HO_315000 BK314 BK315 HB hHeld ⊢
      refine pV_ 2 48 (bm 11 4) HT_.out ?_
      refine pV_ 3 49 (bm 11 12) HT_.out ?_
      refine pV_ 5 51 (bm 11 44) HT_.out ?_
      refine take_ (i:=0) (N:=some 46) (v:=?_) (a':=?_) (bm 11 45) rfl rfl (take_ofW HT_.out HW_.out (by kernel_rfl)) (fun _ _ _ h => h) (Or.inl ⟨by rfl,?_⟩) hHeld ?_ ?_
      rotate_left
      ·rintro w' ⟨s0,s1⟩
       go_simp
       with_reducible rfl
      rotate_left
      ·simp only [Act.put,setIfInBounds_toArray,set_cons_zero,set_cons_succ,i64_w,i32_w]
       rfl
      refine take_ (i:=4) (N:=some 50) (v:=?_) (a':=?_) (bm 11 61) rfl rfl (take_ofW HT_.out HW_.out (by kernel_rfl)) (fun _ _ _ h => h) (Or.inl ⟨by rfl,?_⟩) hHeld ?_ ?_
      rotate_left
      ·rintro w' ⟨s0,s1⟩
       go_simp
       with_reducible rfl
      rotate_left
      ·simp only [Act.put,setIfInBounds_toArray,set_cons_zero,set_cons_succ,i64_w,i32_w]
       rfl
      refine pV_ 6 52 (bm 11 125) HT_.out ?_
      refine join_ (σ := Value × Nat × Nat) 2 (bm 11 511) (fun s_ => [(47,.agg #[s_.1,.int .i64 t333]),(12,.pointer (some ⟨s_.2.1,0,none⟩)),(13,.pointer (some ⟨s_.2.2,0,none⟩))]) (fun s_ w' => (w'.cell? ⟨gb314,0,none⟩ = some (.slice A0_0 l0_0.length c0_0) ∧ w'.cell? ⟨gb314,1,none⟩ = some (.int .i64 a0_1)) ∧ (Kd.R k71 71 w' w.heap.size (fun k_ => (w.heap.size ≤ k_) ∧ k_ ≠ s_.2.2) s_.1 t330) ∧ (Kd.V k71 71 w' w.heap.size (fun k_ => (P0_0_ k_ ∨ w.heap.size ≤ k_) ∧ some k_ ≠ (s_.1 : Value).ownBlock ∧ k_ ≠ gb314 ∧ k_ ≠ gb315 ∧ k_ ≠ s_.2.1 ∧ k_ ≠ s_.2.2) (.slice A0_0 l0_0.length c0_0) l0_0) ∧ (w'.heap[gb314]? = some (.cells #[.slice A0_0 l0_0.length c0_0,.int .i64 a0_1] 28 (0,0))) ∧ (w'.heap[gb315]? = some (.cells #[.slice none 0 0,.int .i64 0] 28 (0,0))) ∧ (w'.heap[s_.2.1]? = some (.cells #[.slice none 0 0,.int .i64 0] 28 (0,0))) ∧ (w'.heap[s_.2.2]? = some (.cells #[.string (⟨#[]⟩ : ByteArray),.int .i64 0,.string (⟨#[]⟩ : ByteArray)] 71 (0,0))) ∧ (w.heap.size ≤ s_.2.1) ∧ (w.heap.size ≤ s_.2.1) ∧ (gb314 ≠ s_.2.1) ∧ (s_.2.1 ≠ gb314) ∧ (gb315 ≠ s_.2.1) ∧ (s_.2.1 ≠ gb315) ∧ (s_.2.2 ≠ s_.2.1) ∧ (s_.2.1 ≠ s_.2.2) ∧ (w.heap.size ≤ s_.2.2) ∧ (w.heap.size ≤ s_.2.2) ∧ (gb314 ≠ s_.2.2) ∧ (s_.2.2 ≠ gb314) ∧ (gb315 ≠ s_.2.2) ∧ (s_.2.2 ≠ gb315) ∧ (Below w.heap.size w w')) ?_ ?_
      rotate_left
      ·intro hJ1_7_8
       refine join_ (σ := Value × Nat) 3 (bm 11 255) (fun s_ => [(47,.agg #[s_.1,.int .i64 t333]),(12,.pointer (some ⟨s_.2,0,none⟩))]) (fun s_ w' => (w'.cell? ⟨gb314,0,none⟩ = some (.slice A0_0 l0_0.length c0_0) ∧ w'.cell? ⟨gb314,1,none⟩ = some (.int .i64 a0_1)) ∧ (Kd.R k71 71 w' w.heap.size (fun k_ => (w.heap.size ≤ k_)) s_.1 t330) ∧ (Kd.V k71 71 w' w.heap.size (fun k_ => (P0_0_ k_ ∨ w.heap.size ≤ k_) ∧ some k_ ≠ (s_.1 : Value).ownBlock ∧ k_ ≠ gb314 ∧ k_ ≠ gb315 ∧ k_ ≠ s_.2) (.slice A0_0 l0_0.length c0_0) l0_0) ∧ (w'.heap[gb314]? = some (.cells #[.slice A0_0 l0_0.length c0_0,.int .i64 a0_1] 28 (0,0))) ∧ (w'.heap[gb315]? = some (.cells #[.slice none 0 0,.int .i64 0] 28 (0,0))) ∧ (w'.heap[s_.2]? = some (.cells #[.slice none 0 0,.int .i64 0] 28 (0,0))) ∧ (w.heap.size ≤ s_.2) ∧ (w.heap.size ≤ s_.2) ∧ (gb314 ≠ s_.2) ∧ (s_.2 ≠ gb314) ∧ (gb315 ≠ s_.2) ∧ (s_.2 ≠ gb315) ∧ (Below w.heap.size w w')) ?_ ?_
       rotate_left
       ·intro hJ1_7
        refine join_ (σ := Value × Nat) 3 (bm 11 383) (fun s_ => [(47,.agg #[s_.1,.int .i64 t333]),(13,.pointer (some ⟨s_.2,0,none⟩))]) (fun s_ w' => (w'.cell? ⟨gb314,0,none⟩ = some (.slice A0_0 l0_0.length c0_0) ∧ w'.cell? ⟨gb314,1,none⟩ = some (.int .i64 a0_1)) ∧ (Kd.R k71 71 w' w.heap.size (fun k_ => (w.heap.size ≤ k_) ∧ k_ ≠ s_.2) s_.1 t330) ∧ (Kd.V k71 71 w' w.heap.size (fun k_ => (P0_0_ k_ ∨ w.heap.size ≤ k_) ∧ some k_ ≠ (s_.1 : Value).ownBlock ∧ k_ ≠ gb314 ∧ k_ ≠ gb315 ∧ k_ ≠ s_.2) (.slice A0_0 l0_0.length c0_0) l0_0) ∧ (w'.heap[gb314]? = some (.cells #[.slice A0_0 l0_0.length c0_0,.int .i64 a0_1] 28 (0,0))) ∧ (w'.heap[gb315]? = some (.cells #[.slice none 0 0,.int .i64 0] 28 (0,0))) ∧ (w'.heap[s_.2]? = some (.cells #[.string (⟨#[]⟩ : ByteArray),.int .i64 0,.string (⟨#[]⟩ : ByteArray)] 71 (0,0))) ∧ (w.heap.size ≤ s_.2) ∧ (w.heap.size ≤ s_.2) ∧ (gb314 ≠ s_.2) ∧ (s_.2 ≠ gb314) ∧ (gb315 ≠ s_.2) ∧ (s_.2 ≠ gb315) ∧ (Below w.heap.size w w')) ?_ ?_
        rotate_left
        ·intro hJ1_8
         refine join_ (σ := Nat × Nat) 3 (bm 11 509) (fun s_ => [(12,.pointer (some ⟨s_.1,0,none⟩)),(13,.pointer (some ⟨s_.2,0,none⟩))]) (fun s_ w' => (w'.cell? ⟨gb314,0,none⟩ = some (.slice A0_0 l0_0.length c0_0) ∧ w'.cell? ⟨gb314,1,none⟩ = some (.int .i64 a0_1)) ∧ (Kd.V k71 71 w' w.heap.size (fun k_ => (P0_0_ k_ ∨ w.heap.size ≤ k_) ∧ k_ ≠ gb314 ∧ k_ ≠ gb315 ∧ k_ ≠ s_.1 ∧ k_ ≠ s_.2) (.slice A0_0 l0_0.length c0_0) l0_0) ∧ (w'.heap[gb314]? = some (.cells #[.slice A0_0 l0_0.length c0_0,.int .i64 a0_1] 28 (0,0))) ∧ (w'.heap[gb315]? = some (.cells #[.slice none 0 0,.int .i64 0] 28 (0,0))) ∧ (w'.heap[s_.1]? = some (.cells #[.slice none 0 0,.int .i64 0] 28 (0,0))) ∧ (w'.heap[s_.2]? = some (.cells #[.string (⟨#[]⟩ : ByteArray),.int .i64 0,.string (⟨#[]⟩ : ByteArray)] 71 (0,0))) ∧ (w.heap.size ≤ s_.1) ∧ (w.heap.size ≤ s_.1) ∧ (gb314 ≠ s_.1) ∧ (s_.1 ≠ gb314) ∧ (gb315 ≠ s_.1) ∧ (s_.1 ≠ gb315) ∧ (s_.2 ≠ s_.1) ∧ (s_.1 ≠ s_.2) ∧ (w.heap.size ≤ s_.2) ∧ (w.heap.size ≤ s_.2) ∧ (gb314 ≠ s_.2) ∧ (s_.2 ≠ gb314) ∧ (gb315 ≠ s_.2) ∧ (s_.2 ≠ gb315) ∧ (Below w.heap.size w w')) ?_ ?_
         rotate_left
         ·intro hJ7_8
          refine join_ (σ := Value) 4 (bm 11 127) (fun s_ => [(47,.agg #[s_,.int .i64 t333])]) (fun s_ w' => (w'.cell? ⟨gb314,0,none⟩ = some (.slice A0_0 l0_0.length c0_0) ∧ w'.cell? ⟨gb314,1,none⟩ = some (.int .i64 a0_1)) ∧ (Kd.R k71 71 w' w.heap.size (fun k_ => (w.heap.size ≤ k_)) s_ t330) ∧ (Kd.V k71 71 w' w.heap.size (fun k_ => (P0_0_ k_ ∨ w.heap.size ≤ k_) ∧ some k_ ≠ (s_ : Value).ownBlock ∧ k_ ≠ gb314 ∧ k_ ≠ gb315) (.slice A0_0 l0_0.length c0_0) l0_0) ∧ (w'.heap[gb314]? = some (.cells #[.slice A0_0 l0_0.length c0_0,.int .i64 a0_1] 28 (0,0))) ∧ (w'.heap[gb315]? = some (.cells #[.slice none 0 0,.int .i64 0] 28 (0,0))) ∧ (Below w.heap.size w w')) ?_ ?_
          rotate_left
          ·intro hJ1
           refine join_ (σ := Nat) 4 (bm 11 253) (fun s_ => [(12,.pointer (some ⟨s_,0,none⟩))]) (fun s_ w' => (w'.cell? ⟨gb314,0,none⟩ = some (.slice A0_0 l0_0.length c0_0) ∧ w'.cell? ⟨gb314,1,none⟩ = some (.int .i64 a0_1)) ∧ (Kd.V k71 71 w' w.heap.size (fun k_ => (P0_0_ k_ ∨ w.heap.size ≤ k_) ∧ k_ ≠ gb314 ∧ k_ ≠ gb315 ∧ k_ ≠ s_) (.slice A0_0 l0_0.length c0_0) l0_0) ∧ (w'.heap[gb314]? = some (.cells #[.slice A0_0 l0_0.length c0_0,.int .i64 a0_1] 28 (0,0))) ∧ (w'.heap[gb315]? = some (.cells #[.slice none 0 0,.int .i64 0] 28 (0,0))) ∧ (w'.heap[s_]? = some (.cells #[.slice none 0 0,.int .i64 0] 28 (0,0))) ∧ (w.heap.size ≤ s_) ∧ (w.heap.size ≤ s_) ∧ (gb314 ≠ s_) ∧ (s_ ≠ gb314) ∧ (gb315 ≠ s_) ∧ (s_ ≠ gb315) ∧ (Below w.heap.size w w')) ?_ ?_
           rotate_left
           ·intro hJ7
            refine join_ (σ := Nat) 4 (bm 11 381) (fun s_ => [(13,.pointer (some ⟨s_,0,none⟩))]) (fun s_ w' => (w'.cell? ⟨gb314,0,none⟩ = some (.slice A0_0 l0_0.length c0_0) ∧ w'.cell? ⟨gb314,1,none⟩ = some (.int .i64 a0_1)) ∧ (Kd.V k71 71 w' w.heap.size (fun k_ => (P0_0_ k_ ∨ w.heap.size ≤ k_) ∧ k_ ≠ gb314 ∧ k_ ≠ gb315 ∧ k_ ≠ s_) (.slice A0_0 l0_0.length c0_0) l0_0) ∧ (w'.heap[gb314]? = some (.cells #[.slice A0_0 l0_0.length c0_0,.int .i64 a0_1] 28 (0,0))) ∧ (w'.heap[gb315]? = some (.cells #[.slice none 0 0,.int .i64 0] 28 (0,0))) ∧ (w'.heap[s_]? = some (.cells #[.string (⟨#[]⟩ : ByteArray),.int .i64 0,.string (⟨#[]⟩ : ByteArray)] 71 (0,0))) ∧ (w.heap.size ≤ s_) ∧ (w.heap.size ≤ s_) ∧ (gb314 ≠ s_) ∧ (s_ ≠ gb314) ∧ (gb315 ≠ s_) ∧ (s_ ≠ gb315) ∧ (Below w.heap.size w w')) ?_ ?_
            rotate_left
            ·intro hJ8
             refine three_ (i:=1) (j:=7) (k:=8) (Ni := some 47) (Nj := some 12) (Nk := some 13) (bm 11 127) (bm 11 253) (bm 11 381) rfl rfl rfl rfl rfl rfl (three_of HT_.out (by kernel_rfl)) (by decide) (by decide) (by decide) (fun K hK => ?_) (fun K hK => ?_) (fun K hK => ?_)
             ·skip
              refine goes_ Try.func32 (by kernel_rfl) rfl #[.agg #[.slice A0_0 l0_0.length c0_0,.int .i64 a0_1]] (by rfl) rfl rfl mA ?_
              with_reducible refine (impl_Store_copied.calls _ _ l0_0 a0_1 t330 t333 _ ?side1 ?side2 A32.out).mono ?_
              (case side1 => repeat (first | exact (Kd.V_reads' HO_315000.out).2.2 | (with_reducible refine Kd.C_alloc ?_ _) | (with_reducible refine Kd.C_drewN ?_ _) | (with_reducible refine Kd.C_drew ?_)))
              (case side2 => exact (Kd.V_reads' HO_315000.out).2.1)
              rintro e w65 ⟨v331,rfl,ho0,hb⟩
              refine ⟨_,rfl,?_⟩
              have n0_ := Aside0.mk (Kd.V_elder' (by (with_reducible repeat (first | apply Kd.V_alloc | apply Kd.V_drewN | apply Kd.V_drew)); exact HO_315000.out) (Kd.R_base ho0) hb)
              have n1_ := Aside0.mk (Kd.R_lower (Kd.R_newM (M:=fun k_ => (w.heap.size ≤ k_)) ho0 (below_size bA) (fun k_ h_ => h_)) (below_size bA))
              have n2_ := Aside0.mk (blk_below (g:=gb314) (o:=.cells #[.slice A0_0 l0_0.length c0_0,.int .i64 a0_1] 28 (0,0)) (kA BK314.out) hb)
              have n3_ := Aside0.mk (blk_below (g:=gb315) (o:=.cells #[.slice none 0 0,.int .i64 0] 28 (0,0)) (kA BK315.out) hb)
              have n4_ := Aside0.mk (below_step bA hb)
              clear HO_315000
              clear BK314
              clear BK315
              clear HB
              have HO_315000 := n0_
              have HO332 := n1_
              have BK314 := n2_
              have BK315 := n3_
              have HB := n4_
              clear n0_ n1_ n2_ n3_ n4_
              (try clear hb)
              (try clear hb2)
              (try clear hk)
              (try clear hi)
              (try clear ho0)
              refine hK.out _ _ ⟨(blk_cell BK314.out 0).trans rfl,(blk_cell BK314.out 1).trans rfl⟩ (fun hHeld => ?_)
              clear hK K
              refine norm_ (a':=?_) ?_ ?_
              rotate_left
              ·show Act.put _ (some 47) _ = _
               simp only [Act.put,setIfInBounds_toArray,set_cons_zero,set_cons_succ,i64_w,i32_w]
               rfl
              exact norm_ (by first | (simp only [putAll,Act.put,setIfInBounds_toArray,set_cons_zero,set_cons_succ]; done) | (simp only [putAll,Act.put,setIfInBounds_toArray,set_cons_zero,set_cons_succ]; rfl)) (hJ1 (v331) _ ⟨hHeld,(by (with_reducible repeat (first | apply Kd.R_alloc | apply Kd.R_drewN | apply Kd.R_drew)); exact Kd.R_mono HO332.out (fun _ hk => hk.1)),(by (with_reducible repeat (first | apply Kd.V_alloc | apply Kd.V_drewN | apply Kd.V_drew)); exact Kd.V_mono HO_315000.out (fun _ hk => ⟨hk.1.1,⟨hk.2,⟨hk.1.2.1,hk.1.2.2⟩⟩⟩)),(kA BK314.out),(kA BK315.out),bA⟩)
             ·skip
              refine box_step ?hg (N:=12) ?hd (cs := #[.slice none 0 0,.int .i64 0]) (t:=28) ?hr ?_; (case hd => rfl); (case hg => rfl); (case hr => first | (go_simp; done) | (go_simp; rfl))
              intro gb334 hg w65 hbox hb
              have n0_ := Aside0.mk (Kd.V_below (Kd.V_elderB (by (with_reducible repeat (first | apply Kd.V_alloc | apply Kd.V_drewN | apply Kd.V_drew)); exact HO_315000.out) gb334 (Nat.le_of_eq hg.symm)) hb)
              have n1_ := Aside0.mk (blk_below (g:=gb314) (o:=.cells #[.slice A0_0 l0_0.length c0_0,.int .i64 a0_1] 28 (0,0)) (kA BK314.out) hb)
              have n2_ := Aside0.mk (blk_below (g:=gb315) (o:=.cells #[.slice none 0 0,.int .i64 0] 28 (0,0)) (kA BK315.out) hb)
              have n3_ := Aside0.mk (below_step bA hb)
              have n4_ := Aside0.mk (hbox)
              have n5_ := Aside0.mk ((by rw [hg]; exact (below_size bA) : w.heap.size ≤ gb334))
              have n6_ := Aside0.mk ((by rw [hg]; exact (below_size bA) : w.heap.size ≤ gb334))
              have n7_ := Aside0.mk ((by rw [hg]; exact Nat.ne_of_lt (blk_lt (g:=gb314) (o:=.cells #[.slice A0_0 l0_0.length c0_0,.int .i64 a0_1] 28 (0,0)) (kA BK314.out)) : gb314 ≠ gb334))
              have n8_ := Aside0.mk ((by rw [hg]; exact Nat.ne_of_gt (blk_lt (g:=gb314) (o:=.cells #[.slice A0_0 l0_0.length c0_0,.int .i64 a0_1] 28 (0,0)) (kA BK314.out)) : gb334 ≠ gb314))
              have n9_ := Aside0.mk ((by rw [hg]; exact Nat.ne_of_lt (blk_lt (g:=gb315) (o:=.cells #[.slice none 0 0,.int .i64 0] 28 (0,0)) (kA BK315.out)) : gb315 ≠ gb334))
              have n10_ := Aside0.mk ((by rw [hg]; exact Nat.ne_of_gt (blk_lt (g:=gb315) (o:=.cells #[.slice none 0 0,.int .i64 0] 28 (0,0)) (kA BK315.out)) : gb334 ≠ gb315))
              clear HO_315000
              clear BK314
              clear BK315
              clear HB
              have HO_315000 := n0_
              have BK314 := n1_
              have BK315 := n2_
              have HB := n3_
              have BK334 := n4_
              have GW334 := n5_
              have GE334 := n6_
              have NB314_334 := n7_
              have NB334_314 := n8_
              have NB315_334 := n9_
              have NB334_315 := n10_
              clear n0_ n1_ n2_ n3_ n4_ n5_ n6_ n7_ n8_ n9_ n10_
              clear hb hbox hg
              refine hK.out _ _ ⟨(blk_cell BK314.out 0).trans rfl,(blk_cell BK314.out 1).trans rfl⟩ (fun hHeld => ?_)
              clear hK K
              refine norm_ (a':=?_) ?_ ?_
              rotate_left
              ·show Act.put _ (some 12) _ = _
               simp only [Act.put,setIfInBounds_toArray,set_cons_zero,set_cons_succ,i64_w,i32_w]
               rfl
              exact norm_ (by first | (simp only [putAll,Act.put,setIfInBounds_toArray,set_cons_zero,set_cons_succ]; done) | (simp only [putAll,Act.put,setIfInBounds_toArray,set_cons_zero,set_cons_succ]; rfl)) (hJ7 (gb334) _ ⟨hHeld,(by (with_reducible repeat (first | apply Kd.V_alloc | apply Kd.V_drewN | apply Kd.V_drew)); exact Kd.V_mono HO_315000.out (fun _ hk => ⟨hk.1.1,⟨hk.1.2.1,⟨hk.1.2.2,hk.2⟩⟩⟩)),(kA BK314.out),(kA BK315.out),(kA BK334.out),GW334.out,GE334.out,NB314_334.out,NB334_314.out,NB315_334.out,NB334_315.out,bA⟩)
             ·skip
              refine box_step ?hg (N:=13) ?hd (cs := #[.string (⟨#[]⟩ : ByteArray),.int .i64 0,.string (⟨#[]⟩ : ByteArray)]) (t:=71) ?hr ?_; (case hd => rfl); (case hg => rfl); (case hr => first | (go_simp; done) | (go_simp; rfl))
              intro gb335 hg w65 hbox hb
              have n0_ := Aside0.mk (Kd.V_below (Kd.V_elderB (by (with_reducible repeat (first | apply Kd.V_alloc | apply Kd.V_drewN | apply Kd.V_drew)); exact HO_315000.out) gb335 (Nat.le_of_eq hg.symm)) hb)
              have n1_ := Aside0.mk (blk_below (g:=gb314) (o:=.cells #[.slice A0_0 l0_0.length c0_0,.int .i64 a0_1] 28 (0,0)) (kA BK314.out) hb)
              have n2_ := Aside0.mk (blk_below (g:=gb315) (o:=.cells #[.slice none 0 0,.int .i64 0] 28 (0,0)) (kA BK315.out) hb)
              have n3_ := Aside0.mk (below_step bA hb)
              have n4_ := Aside0.mk (hbox)
              have n5_ := Aside0.mk ((by rw [hg]; exact (below_size bA) : w.heap.size ≤ gb335))
              have n6_ := Aside0.mk ((by rw [hg]; exact (below_size bA) : w.heap.size ≤ gb335))
              have n7_ := Aside0.mk ((by rw [hg]; exact Nat.ne_of_lt (blk_lt (g:=gb314) (o:=.cells #[.slice A0_0 l0_0.length c0_0,.int .i64 a0_1] 28 (0,0)) (kA BK314.out)) : gb314 ≠ gb335))
              have n8_ := Aside0.mk ((by rw [hg]; exact Nat.ne_of_gt (blk_lt (g:=gb314) (o:=.cells #[.slice A0_0 l0_0.length c0_0,.int .i64 a0_1] 28 (0,0)) (kA BK314.out)) : gb335 ≠ gb314))
              have n9_ := Aside0.mk ((by rw [hg]; exact Nat.ne_of_lt (blk_lt (g:=gb315) (o:=.cells #[.slice none 0 0,.int .i64 0] 28 (0,0)) (kA BK315.out)) : gb315 ≠ gb335))
              have n10_ := Aside0.mk ((by rw [hg]; exact Nat.ne_of_gt (blk_lt (g:=gb315) (o:=.cells #[.slice none 0 0,.int .i64 0] 28 (0,0)) (kA BK315.out)) : gb335 ≠ gb315))
              clear HO_315000
              clear BK314
              clear BK315
              clear HB
              have HO_315000 := n0_
              have BK314 := n1_
              have BK315 := n2_
              have HB := n3_
              have BK335 := n4_
              have GW335 := n5_
              have GE335 := n6_
              have NB314_335 := n7_
              have NB335_314 := n8_
              have NB315_335 := n9_
              have NB335_315 := n10_
              clear n0_ n1_ n2_ n3_ n4_ n5_ n6_ n7_ n8_ n9_ n10_
              clear hb hbox hg
              refine hK.out _ _ ⟨(blk_cell BK314.out 0).trans rfl,(blk_cell BK314.out 1).trans rfl⟩ (fun hHeld => ?_)
              clear hK K
              refine norm_ (a':=?_) ?_ ?_
              rotate_left
              ·show Act.put _ (some 13) _ = _
               simp only [Act.put,setIfInBounds_toArray,set_cons_zero,set_cons_succ,i64_w,i32_w]
               rfl
              exact norm_ (by first | (simp only [putAll,Act.put,setIfInBounds_toArray,set_cons_zero,set_cons_succ]; done) | (simp only [putAll,Act.put,setIfInBounds_toArray,set_cons_zero,set_cons_succ]; rfl)) (hJ8 (gb335) _ ⟨hHeld,(by (with_reducible repeat (first | apply Kd.V_alloc | apply Kd.V_drewN | apply Kd.V_drew)); exact Kd.V_mono HO_315000.out (fun _ hk => ⟨hk.1.1,⟨hk.1.2.1,⟨hk.1.2.2,hk.2⟩⟩⟩)),(kA BK314.out),(kA BK315.out),(kA BK335.out),GW335.out,GE335.out,NB314_335.out,NB335_314.out,NB315_335.out,NB335_315.out,bA⟩)
            ·skip
             rintro gb335 w66 ⟨hS_,h0_,h1_,h2_,h3_,h4_,h5_,h6_,h7_,h8_,h9_,h10_⟩
             have n0_ : Aside0 (Kd.V k71 71 w66 w.heap.size (fun k_ => (P0_0_ k_ ∨ w.heap.size ≤ k_) ∧ k_ ≠ gb314 ∧ k_ ≠ gb315 ∧ k_ ≠ gb335) (.slice A0_0 l0_0.length c0_0) l0_0) := ⟨h0_⟩
             have n1_ : Aside0 (w66.heap[gb314]? = some (.cells #[.slice A0_0 l0_0.length c0_0,.int .i64 a0_1] 28 (0,0))) := ⟨h1_⟩
             have n2_ : Aside0 (w66.heap[gb315]? = some (.cells #[.slice none 0 0,.int .i64 0] 28 (0,0))) := ⟨h2_⟩
             have n3_ : Aside0 (w66.heap[gb335]? = some (.cells #[.string (⟨#[]⟩ : ByteArray),.int .i64 0,.string (⟨#[]⟩ : ByteArray)] 71 (0,0))) := ⟨h3_⟩
             have n4_ : Aside0 (w.heap.size ≤ gb335) := ⟨h4_⟩
             have n5_ : Aside0 (w.heap.size ≤ gb335) := ⟨h5_⟩
             have n6_ : Aside0 (gb314 ≠ gb335) := ⟨h6_⟩
             have n7_ : Aside0 (gb335 ≠ gb314) := ⟨h7_⟩
             have n8_ : Aside0 (gb315 ≠ gb335) := ⟨h8_⟩
             have n9_ : Aside0 (gb335 ≠ gb315) := ⟨h9_⟩
             have n10_ : Aside0 (Below w.heap.size w w66) := ⟨h10_⟩
             clear HO_315000
             clear BK314
             clear BK315
             clear HB
             clear h0_ h1_ h2_ h3_ h4_ h5_ h6_ h7_ h8_ h9_ h10_
             have HO_315000 := n0_
             have BK314 := n1_
             have BK315 := n2_
             have BK335 := n3_
             have GW335 := n4_
             have GE335 := n5_
             have NB314_335 := n6_
             have NB335_314 := n7_
             have NB315_335 := n8_
             have NB335_315 := n9_
             have HB := n10_
             clear n0_ n1_ n2_ n3_ n4_ n5_ n6_ n7_ n8_ n9_ n10_
             have hHeld : w66.cell? ⟨gb314,0,none⟩ = some (.slice A0_0 l0_0.length c0_0) ∧ w66.cell? ⟨gb314,1,none⟩ = some (.int .i64 a0_1) := hS_
             refine norm_ (a':=?_) ?_ ?_
             rotate_left
             ·simp only [putAll,Act.put,setIfInBounds_toArray,set_cons_zero,set_cons_succ]
              rfl
             refine two_ (i:=1) (j:=7) (Ni := some 47) (Nj := some 12) (bm 11 383) (bm 11 509) rfl rfl rfl rfl (two_of HT_.out (by kernel_rfl)) (by decide) (by decide) (fun K hK => ?_) (fun K hK => ?_)
             ·skip
              refine goes_ Try.func32 (by kernel_rfl) rfl #[.agg #[.slice A0_0 l0_0.length c0_0,.int .i64 a0_1]] (by rfl) rfl rfl mA ?_
              with_reducible refine (impl_Store_copied.calls _ _ l0_0 a0_1 t330 t333 _ ?side1 ?side2 A32.out).mono ?_
              (case side1 => repeat (first | exact (Kd.V_reads' HO_315000.out).2.2 | (with_reducible refine Kd.C_alloc ?_ _) | (with_reducible refine Kd.C_drewN ?_ _) | (with_reducible refine Kd.C_drew ?_)))
              (case side2 => exact (Kd.V_reads' HO_315000.out).2.1)
              rintro e w67 ⟨v331,rfl,ho0,hb⟩
              refine ⟨_,rfl,?_⟩
              have n0_ := Aside0.mk (Kd.V_elder' (by (with_reducible repeat (first | apply Kd.V_alloc | apply Kd.V_drewN | apply Kd.V_drew)); exact HO_315000.out) (Kd.R_base ho0) hb)
              have n1_ := Aside0.mk (Kd.R_lower (Kd.R_newB (Kd.R_newM (M:=fun k_ => (w.heap.size ≤ k_)) ho0 (below_size bA) (fun k_ h_ => h_)) (g:=gb335) (o:=.cells #[.string (⟨#[]⟩ : ByteArray),.int .i64 0,.string (⟨#[]⟩ : ByteArray)] 71 (0,0)) (kA BK335.out)) (below_size bA))
              have n2_ := Aside0.mk (blk_below (g:=gb314) (o:=.cells #[.slice A0_0 l0_0.length c0_0,.int .i64 a0_1] 28 (0,0)) (kA BK314.out) hb)
              have n3_ := Aside0.mk (blk_below (g:=gb315) (o:=.cells #[.slice none 0 0,.int .i64 0] 28 (0,0)) (kA BK315.out) hb)
              have n4_ := Aside0.mk (blk_below (g:=gb335) (o:=.cells #[.string (⟨#[]⟩ : ByteArray),.int .i64 0,.string (⟨#[]⟩ : ByteArray)] 71 (0,0)) (kA BK335.out) hb)
              have n5_ := Aside0.mk (below_step bA hb)
              clear HO_315000
              clear BK314
              clear BK315
              clear BK335
              clear HB
              have HO_315000 := n0_
              have HO332 := n1_
              have BK314 := n2_
              have BK315 := n3_
              have BK335 := n4_
              have HB := n5_
              clear n0_ n1_ n2_ n3_ n4_ n5_
              (try clear hb)
              (try clear hb2)
              (try clear hk)
              (try clear hi)
              (try clear ho0)
              refine hK.out _ _ ⟨(blk_cell BK314.out 0).trans rfl,(blk_cell BK314.out 1).trans rfl⟩ (fun hHeld => ?_)
              clear hK K
              refine norm_ (a':=?_) ?_ ?_
              rotate_left
              ·show Act.put _ (some 47) _ = _
               simp only [Act.put,setIfInBounds_toArray,set_cons_zero,set_cons_succ,i64_w,i32_w]
               rfl
              exact norm_ (by first | (simp only [putAll,Act.put,setIfInBounds_toArray,set_cons_zero,set_cons_succ]; done) | (simp only [putAll,Act.put,setIfInBounds_toArray,set_cons_zero,set_cons_succ]; rfl)) (hJ1_8 (v331,gb335) _ ⟨hHeld,(by (with_reducible repeat (first | apply Kd.R_alloc | apply Kd.R_drewN | apply Kd.R_drew)); exact Kd.R_mono HO332.out (fun _ hk => ⟨hk.1.1,hk.2⟩)),(by (with_reducible repeat (first | apply Kd.V_alloc | apply Kd.V_drewN | apply Kd.V_drew)); exact Kd.V_mono HO_315000.out (fun _ hk => ⟨hk.1.1,⟨hk.2,⟨hk.1.2.1,⟨hk.1.2.2.1,hk.1.2.2.2⟩⟩⟩⟩)),(kA BK314.out),(kA BK315.out),(kA BK335.out),GW335.out,GE335.out,NB314_335.out,NB335_314.out,NB315_335.out,NB335_315.out,bA⟩)
             ·skip
              refine box_step ?hg (N:=12) ?hd (cs := #[.slice none 0 0,.int .i64 0]) (t:=28) ?hr ?_; (case hd => rfl); (case hg => rfl); (case hr => first | (go_simp; done) | (go_simp; rfl))
              intro gb334 hg w67 hbox hb
              have n0_ := Aside0.mk (Kd.V_below (Kd.V_elderB (by (with_reducible repeat (first | apply Kd.V_alloc | apply Kd.V_drewN | apply Kd.V_drew)); exact HO_315000.out) gb334 (Nat.le_of_eq hg.symm)) hb)
              have n1_ := Aside0.mk (blk_below (g:=gb314) (o:=.cells #[.slice A0_0 l0_0.length c0_0,.int .i64 a0_1] 28 (0,0)) (kA BK314.out) hb)
              have n2_ := Aside0.mk (blk_below (g:=gb315) (o:=.cells #[.slice none 0 0,.int .i64 0] 28 (0,0)) (kA BK315.out) hb)
              have n3_ := Aside0.mk (blk_below (g:=gb335) (o:=.cells #[.string (⟨#[]⟩ : ByteArray),.int .i64 0,.string (⟨#[]⟩ : ByteArray)] 71 (0,0)) (kA BK335.out) hb)
              have n4_ := Aside0.mk (below_step bA hb)
              have n5_ := Aside0.mk (hbox)
              have n6_ := Aside0.mk ((by rw [hg]; exact (below_size bA) : w.heap.size ≤ gb334))
              have n7_ := Aside0.mk ((by rw [hg]; exact (below_size bA) : w.heap.size ≤ gb334))
              have n8_ := Aside0.mk ((by rw [hg]; exact Nat.ne_of_lt (blk_lt (g:=gb314) (o:=.cells #[.slice A0_0 l0_0.length c0_0,.int .i64 a0_1] 28 (0,0)) (kA BK314.out)) : gb314 ≠ gb334))
              have n9_ := Aside0.mk ((by rw [hg]; exact Nat.ne_of_gt (blk_lt (g:=gb314) (o:=.cells #[.slice A0_0 l0_0.length c0_0,.int .i64 a0_1] 28 (0,0)) (kA BK314.out)) : gb334 ≠ gb314))
              have n10_ := Aside0.mk ((by rw [hg]; exact Nat.ne_of_lt (blk_lt (g:=gb315) (o:=.cells #[.slice none 0 0,.int .i64 0] 28 (0,0)) (kA BK315.out)) : gb315 ≠ gb334))
              have n11_ := Aside0.mk ((by rw [hg]; exact Nat.ne_of_gt (blk_lt (g:=gb315) (o:=.cells #[.slice none 0 0,.int .i64 0] 28 (0,0)) (kA BK315.out)) : gb334 ≠ gb315))
              have n12_ := Aside0.mk ((by rw [hg]; exact Nat.ne_of_lt (blk_lt (g:=gb335) (o:=.cells #[.string (⟨#[]⟩ : ByteArray),.int .i64 0,.string (⟨#[]⟩ : ByteArray)] 71 (0,0)) (kA BK335.out)) : gb335 ≠ gb334))
              have n13_ := Aside0.mk ((by rw [hg]; exact Nat.ne_of_gt (blk_lt (g:=gb335) (o:=.cells #[.string (⟨#[]⟩ : ByteArray),.int .i64 0,.string (⟨#[]⟩ : ByteArray)] 71 (0,0)) (kA BK335.out)) : gb334 ≠ gb335))
              clear HO_315000
              clear BK314
              clear BK315
              clear BK335
              clear HB
              have HO_315000 := n0_
              have BK314 := n1_
              have BK315 := n2_
              have BK335 := n3_
              have HB := n4_
              have BK334 := n5_
              have GW334 := n6_
              have GE334 := n7_
              have NB314_334 := n8_
              have NB334_314 := n9_
              have NB315_334 := n10_
              have NB334_315 := n11_
              have NB335_334 := n12_
              have NB334_335 := n13_
              clear n0_ n1_ n2_ n3_ n4_ n5_ n6_ n7_ n8_ n9_ n10_ n11_ n12_ n13_
              clear hb hbox hg
              refine hK.out _ _ ⟨(blk_cell BK314.out 0).trans rfl,(blk_cell BK314.out 1).trans rfl⟩ (fun hHeld => ?_)
              clear hK K
              refine norm_ (a':=?_) ?_ ?_
              rotate_left
              ·show Act.put _ (some 12) _ = _
               simp only [Act.put,setIfInBounds_toArray,set_cons_zero,set_cons_succ,i64_w,i32_w]
               rfl
              exact norm_ (by first | (simp only [putAll,Act.put,setIfInBounds_toArray,set_cons_zero,set_cons_succ]; done) | (simp only [putAll,Act.put,setIfInBounds_toArray,set_cons_zero,set_cons_succ]; rfl)) (hJ7_8 (gb334,gb335) _ ⟨hHeld,(by (with_reducible repeat (first | apply Kd.V_alloc | apply Kd.V_drewN | apply Kd.V_drew)); exact Kd.V_mono HO_315000.out (fun _ hk => ⟨hk.1.1,⟨hk.1.2.1,⟨hk.1.2.2.1,⟨hk.2,hk.1.2.2.2⟩⟩⟩⟩)),(kA BK314.out),(kA BK315.out),(kA BK334.out),(kA BK335.out),GW334.out,GE334.out,NB314_334.out,NB334_314.out,NB315_334.out,NB334_315.out,NB335_334.out,NB334_335.out,GW335.out,GE335.out,NB314_335.out,NB335_314.out,NB315_335.out,NB335_315.out,bA⟩)
           ·skip
            rintro gb334 w66 ⟨hS_,h0_,h1_,h2_,h3_,h4_,h5_,h6_,h7_,h8_,h9_,h10_⟩
            have n0_ : Aside0 (Kd.V k71 71 w66 w.heap.size (fun k_ => (P0_0_ k_ ∨ w.heap.size ≤ k_) ∧ k_ ≠ gb314 ∧ k_ ≠ gb315 ∧ k_ ≠ gb334) (.slice A0_0 l0_0.length c0_0) l0_0) := ⟨h0_⟩
            have n1_ : Aside0 (w66.heap[gb314]? = some (.cells #[.slice A0_0 l0_0.length c0_0,.int .i64 a0_1] 28 (0,0))) := ⟨h1_⟩
            have n2_ : Aside0 (w66.heap[gb315]? = some (.cells #[.slice none 0 0,.int .i64 0] 28 (0,0))) := ⟨h2_⟩
            have n3_ : Aside0 (w66.heap[gb334]? = some (.cells #[.slice none 0 0,.int .i64 0] 28 (0,0))) := ⟨h3_⟩
            have n4_ : Aside0 (w.heap.size ≤ gb334) := ⟨h4_⟩
            have n5_ : Aside0 (w.heap.size ≤ gb334) := ⟨h5_⟩
            have n6_ : Aside0 (gb314 ≠ gb334) := ⟨h6_⟩
            have n7_ : Aside0 (gb334 ≠ gb314) := ⟨h7_⟩
            have n8_ : Aside0 (gb315 ≠ gb334) := ⟨h8_⟩
            have n9_ : Aside0 (gb334 ≠ gb315) := ⟨h9_⟩
            have n10_ : Aside0 (Below w.heap.size w w66) := ⟨h10_⟩
            clear HO_315000
            clear BK314
            clear BK315
            clear HB
            clear h0_ h1_ h2_ h3_ h4_ h5_ h6_ h7_ h8_ h9_ h10_
            have HO_315000 := n0_
            have BK314 := n1_
            have BK315 := n2_
            have BK334 := n3_
            have GW334 := n4_
            have GE334 := n5_
            have NB314_334 := n6_
            have NB334_314 := n7_
            have NB315_334 := n8_
            have NB334_315 := n9_
            have HB := n10_
            clear n0_ n1_ n2_ n3_ n4_ n5_ n6_ n7_ n8_ n9_ n10_
            have hHeld : w66.cell? ⟨gb314,0,none⟩ = some (.slice A0_0 l0_0.length c0_0) ∧ w66.cell? ⟨gb314,1,none⟩ = some (.int .i64 a0_1) := hS_
            refine norm_ (a':=?_) ?_ ?_
            rotate_left
            ·simp only [putAll,Act.put,setIfInBounds_toArray,set_cons_zero,set_cons_succ]
             rfl
            refine two_ (i:=1) (j:=8) (Ni := some 47) (Nj := some 13) (bm 11 255) (bm 11 509) rfl rfl rfl rfl (two_of HT_.out (by kernel_rfl)) (by decide) (by decide) (fun K hK => ?_) (fun K hK => ?_)
            ·skip
             refine goes_ Try.func32 (by kernel_rfl) rfl #[.agg #[.slice A0_0 l0_0.length c0_0,.int .i64 a0_1]] (by rfl) rfl rfl mA ?_
             with_reducible refine (impl_Store_copied.calls _ _ l0_0 a0_1 t330 t333 _ ?side1 ?side2 A32.out).mono ?_
             (case side1 => repeat (first | exact (Kd.V_reads' HO_315000.out).2.2 | (with_reducible refine Kd.C_alloc ?_ _) | (with_reducible refine Kd.C_drewN ?_ _) | (with_reducible refine Kd.C_drew ?_)))
             (case side2 => exact (Kd.V_reads' HO_315000.out).2.1)
             rintro e w67 ⟨v331,rfl,ho0,hb⟩
             refine ⟨_,rfl,?_⟩
             have n0_ := Aside0.mk (Kd.V_elder' (by (with_reducible repeat (first | apply Kd.V_alloc | apply Kd.V_drewN | apply Kd.V_drew)); exact HO_315000.out) (Kd.R_base ho0) hb)
             have n1_ := Aside0.mk (Kd.R_lower (Kd.R_newM (M:=fun k_ => (w.heap.size ≤ k_)) ho0 (below_size bA) (fun k_ h_ => h_)) (below_size bA))
             have n2_ := Aside0.mk (blk_below (g:=gb314) (o:=.cells #[.slice A0_0 l0_0.length c0_0,.int .i64 a0_1] 28 (0,0)) (kA BK314.out) hb)
             have n3_ := Aside0.mk (blk_below (g:=gb315) (o:=.cells #[.slice none 0 0,.int .i64 0] 28 (0,0)) (kA BK315.out) hb)
             have n4_ := Aside0.mk (blk_below (g:=gb334) (o:=.cells #[.slice none 0 0,.int .i64 0] 28 (0,0)) (kA BK334.out) hb)
             have n5_ := Aside0.mk (below_step bA hb)
             clear HO_315000
             clear BK314
             clear BK315
             clear BK334
             clear HB
             have HO_315000 := n0_
             have HO332 := n1_
             have BK314 := n2_
             have BK315 := n3_
             have BK334 := n4_
             have HB := n5_
             clear n0_ n1_ n2_ n3_ n4_ n5_
             (try clear hb)
             (try clear hb2)
             (try clear hk)
             (try clear hi)
             (try clear ho0)
             refine hK.out _ _ ⟨(blk_cell BK314.out 0).trans rfl,(blk_cell BK314.out 1).trans rfl⟩ (fun hHeld => ?_)
             clear hK K
             refine norm_ (a':=?_) ?_ ?_
             rotate_left
             ·show Act.put _ (some 47) _ = _
              simp only [Act.put,setIfInBounds_toArray,set_cons_zero,set_cons_succ,i64_w,i32_w]
              rfl
             exact norm_ (by first | (simp only [putAll,Act.put,setIfInBounds_toArray,set_cons_zero,set_cons_succ]; done) | (simp only [putAll,Act.put,setIfInBounds_toArray,set_cons_zero,set_cons_succ]; rfl)) (hJ1_7 (v331,gb334) _ ⟨hHeld,(by (with_reducible repeat (first | apply Kd.R_alloc | apply Kd.R_drewN | apply Kd.R_drew)); exact Kd.R_mono HO332.out (fun _ hk => hk.1)),(by (with_reducible repeat (first | apply Kd.V_alloc | apply Kd.V_drewN | apply Kd.V_drew)); exact Kd.V_mono HO_315000.out (fun _ hk => ⟨hk.1.1,⟨hk.2,⟨hk.1.2.1,⟨hk.1.2.2.1,hk.1.2.2.2⟩⟩⟩⟩)),(kA BK314.out),(kA BK315.out),(kA BK334.out),GW334.out,GE334.out,NB314_334.out,NB334_314.out,NB315_334.out,NB334_315.out,bA⟩)
            ·skip
             refine box_step ?hg (N:=13) ?hd (cs := #[.string (⟨#[]⟩ : ByteArray),.int .i64 0,.string (⟨#[]⟩ : ByteArray)]) (t:=71) ?hr ?_; (case hd => rfl); (case hg => rfl); (case hr => first | (go_simp; done) | (go_simp; rfl))
             intro gb335 hg w67 hbox hb
             have n0_ := Aside0.mk (Kd.V_below (Kd.V_elderB (by (with_reducible repeat (first | apply Kd.V_alloc | apply Kd.V_drewN | apply Kd.V_drew)); exact HO_315000.out) gb335 (Nat.le_of_eq hg.symm)) hb)
             have n1_ := Aside0.mk (blk_below (g:=gb314) (o:=.cells #[.slice A0_0 l0_0.length c0_0,.int .i64 a0_1] 28 (0,0)) (kA BK314.out) hb)
             have n2_ := Aside0.mk (blk_below (g:=gb315) (o:=.cells #[.slice none 0 0,.int .i64 0] 28 (0,0)) (kA BK315.out) hb)
             have n3_ := Aside0.mk (blk_below (g:=gb334) (o:=.cells #[.slice none 0 0,.int .i64 0] 28 (0,0)) (kA BK334.out) hb)
             have n4_ := Aside0.mk (below_step bA hb)
             have n5_ := Aside0.mk (hbox)
             have n6_ := Aside0.mk ((by rw [hg]; exact (below_size bA) : w.heap.size ≤ gb335))
             have n7_ := Aside0.mk ((by rw [hg]; exact (below_size bA) : w.heap.size ≤ gb335))
             have n8_ := Aside0.mk ((by rw [hg]; exact Nat.ne_of_lt (blk_lt (g:=gb314) (o:=.cells #[.slice A0_0 l0_0.length c0_0,.int .i64 a0_1] 28 (0,0)) (kA BK314.out)) : gb314 ≠ gb335))
             have n9_ := Aside0.mk ((by rw [hg]; exact Nat.ne_of_gt (blk_lt (g:=gb314) (o:=.cells #[.slice A0_0 l0_0.length c0_0,.int .i64 a0_1] 28 (0,0)) (kA BK314.out)) : gb335 ≠ gb314))
             have n10_ := Aside0.mk ((by rw [hg]; exact Nat.ne_of_lt (blk_lt (g:=gb315) (o:=.cells #[.slice none 0 0,.int .i64 0] 28 (0,0)) (kA BK315.out)) : gb315 ≠ gb335))
             have n11_ := Aside0.mk ((by rw [hg]; exact Nat.ne_of_gt (blk_lt (g:=gb315) (o:=.cells #[.slice none 0 0,.int .i64 0] 28 (0,0)) (kA BK315.out)) : gb335 ≠ gb315))
             have n12_ := Aside0.mk ((by rw [hg]; exact Nat.ne_of_lt (blk_lt (g:=gb334) (o:=.cells #[.slice none 0 0,.int .i64 0] 28 (0,0)) (kA BK334.out)) : gb334 ≠ gb335))
             have n13_ := Aside0.mk ((by rw [hg]; exact Nat.ne_of_gt (blk_lt (g:=gb334) (o:=.cells #[.slice none 0 0,.int .i64 0] 28 (0,0)) (kA BK334.out)) : gb335 ≠ gb334))
             clear HO_315000
             clear BK314
             clear BK315
             clear BK334
             clear HB
             have HO_315000 := n0_
             have BK314 := n1_
             have BK315 := n2_
             have BK334 := n3_
             have HB := n4_
             have BK335 := n5_
             have GW335 := n6_
             have GE335 := n7_
             have NB314_335 := n8_
             have NB335_314 := n9_
             have NB315_335 := n10_
             have NB335_315 := n11_
             have NB334_335 := n12_
             have NB335_334 := n13_
             clear n0_ n1_ n2_ n3_ n4_ n5_ n6_ n7_ n8_ n9_ n10_ n11_ n12_ n13_
             clear hb hbox hg
             refine hK.out _ _ ⟨(blk_cell BK314.out 0).trans rfl,(blk_cell BK314.out 1).trans rfl⟩ (fun hHeld => ?_)
             clear hK K
             refine norm_ (a':=?_) ?_ ?_
             rotate_left
             ·show Act.put _ (some 13) _ = _
              simp only [Act.put,setIfInBounds_toArray,set_cons_zero,set_cons_succ,i64_w,i32_w]
              rfl
             exact norm_ (by first | (simp only [putAll,Act.put,setIfInBounds_toArray,set_cons_zero,set_cons_succ]; done) | (simp only [putAll,Act.put,setIfInBounds_toArray,set_cons_zero,set_cons_succ]; rfl)) (hJ7_8 (gb334,gb335) _ ⟨hHeld,(by (with_reducible repeat (first | apply Kd.V_alloc | apply Kd.V_drewN | apply Kd.V_drew)); exact Kd.V_mono HO_315000.out (fun _ hk => ⟨hk.1.1,⟨hk.1.2.1,⟨hk.1.2.2.1,⟨hk.1.2.2.2,hk.2⟩⟩⟩⟩)),(kA BK314.out),(kA BK315.out),(kA BK334.out),(kA BK335.out),GW334.out,GE334.out,NB314_334.out,NB334_314.out,NB315_334.out,NB334_315.out,NB335_334.out,NB334_335.out,GW335.out,GE335.out,NB314_335.out,NB335_314.out,NB315_335.out,NB335_315.out,bA⟩)
          ·skip
           rintro v331 w66 ⟨hS_,h0_,h1_,h2_,h3_,h4_⟩
           have n0_ : Aside0 (Kd.R k71 71 w66 w.heap.size (fun k_ => (w.heap.size ≤ k_)) v331 t330) := ⟨h0_⟩
           have n1_ : Aside0 (Kd.V k71 71 w66 w.heap.size (fun k_ => (P0_0_ k_ ∨ w.heap.size ≤ k_) ∧ some k_ ≠ (v331 : Value).ownBlock ∧ k_ ≠ gb314 ∧ k_ ≠ gb315) (.slice A0_0 l0_0.length c0_0) l0_0) := ⟨h1_⟩
           have n2_ : Aside0 (w66.heap[gb314]? = some (.cells #[.slice A0_0 l0_0.length c0_0,.int .i64 a0_1] 28 (0,0))) := ⟨h2_⟩
           have n3_ : Aside0 (w66.heap[gb315]? = some (.cells #[.slice none 0 0,.int .i64 0] 28 (0,0))) := ⟨h3_⟩
           have n4_ : Aside0 (Below w.heap.size w w66) := ⟨h4_⟩
           clear HO_315000
           clear BK314
           clear BK315
           clear HB
           clear h0_ h1_ h2_ h3_ h4_
           have HO332 := n0_
           have HO_315000 := n1_
           have BK314 := n2_
           have BK315 := n3_
           have HB := n4_
           clear n0_ n1_ n2_ n3_ n4_
           have hHeld : w66.cell? ⟨gb314,0,none⟩ = some (.slice A0_0 l0_0.length c0_0) ∧ w66.cell? ⟨gb314,1,none⟩ = some (.int .i64 a0_1) := hS_
           refine norm_ (a':=?_) ?_ ?_
           rotate_left
           ·simp only [putAll,Act.put,setIfInBounds_toArray,set_cons_zero,set_cons_succ]
            rfl
           refine two_ (i:=7) (j:=8) (Ni := some 12) (Nj := some 13) (bm 11 255) (bm 11 383) rfl rfl rfl rfl (two_of HT_.out (by kernel_rfl)) (by decide) (by decide) (fun K hK => ?_) (fun K hK => ?_)
           ·skip
            refine box_step ?hg (N:=12) ?hd (cs := #[.slice none 0 0,.int .i64 0]) (t:=28) ?hr ?_; (case hd => rfl); (case hg => rfl); (case hr => first | (go_simp; done) | (go_simp; rfl))
            intro gb334 hg w67 hbox hb
            have n0_ := Aside0.mk (Kd.V_below (Kd.V_elderB (by (with_reducible repeat (first | apply Kd.V_alloc | apply Kd.V_drewN | apply Kd.V_drew)); exact HO_315000.out) gb334 (Nat.le_of_eq hg.symm)) hb)
            have n1_ := Aside0.mk (Kd.R_below (rA HO332.out) hb)
            have n2_ := Aside0.mk (blk_below (g:=gb314) (o:=.cells #[.slice A0_0 l0_0.length c0_0,.int .i64 a0_1] 28 (0,0)) (kA BK314.out) hb)
            have n3_ := Aside0.mk (blk_below (g:=gb315) (o:=.cells #[.slice none 0 0,.int .i64 0] 28 (0,0)) (kA BK315.out) hb)
            have n4_ := Aside0.mk (below_step bA hb)
            have n5_ := Aside0.mk (hbox)
            have n6_ := Aside0.mk ((by rw [hg]; exact (below_size bA) : w.heap.size ≤ gb334))
            have n7_ := Aside0.mk ((by rw [hg]; exact (below_size bA) : w.heap.size ≤ gb334))
            have n8_ := Aside0.mk ((by rw [hg]; exact Nat.ne_of_lt (blk_lt (g:=gb314) (o:=.cells #[.slice A0_0 l0_0.length c0_0,.int .i64 a0_1] 28 (0,0)) (kA BK314.out)) : gb314 ≠ gb334))
            have n9_ := Aside0.mk ((by rw [hg]; exact Nat.ne_of_gt (blk_lt (g:=gb314) (o:=.cells #[.slice A0_0 l0_0.length c0_0,.int .i64 a0_1] 28 (0,0)) (kA BK314.out)) : gb334 ≠ gb314))
            have n10_ := Aside0.mk ((by rw [hg]; exact Nat.ne_of_lt (blk_lt (g:=gb315) (o:=.cells #[.slice none 0 0,.int .i64 0] 28 (0,0)) (kA BK315.out)) : gb315 ≠ gb334))
            have n11_ := Aside0.mk ((by rw [hg]; exact Nat.ne_of_gt (blk_lt (g:=gb315) (o:=.cells #[.slice none 0 0,.int .i64 0] 28 (0,0)) (kA BK315.out)) : gb334 ≠ gb315))
            clear HO_315000
            clear HO332
            clear BK314
            clear BK315
            clear HB
            have HO_315000 := n0_
            have HO332 := n1_
            have BK314 := n2_
            have BK315 := n3_
            have HB := n4_
            have BK334 := n5_
            have GW334 := n6_
            have GE334 := n7_
            have NB314_334 := n8_
            have NB334_314 := n9_
            have NB315_334 := n10_
            have NB334_315 := n11_
            clear n0_ n1_ n2_ n3_ n4_ n5_ n6_ n7_ n8_ n9_ n10_ n11_
            clear hb hbox hg
            refine hK.out _ _ ⟨(blk_cell BK314.out 0).trans rfl,(blk_cell BK314.out 1).trans rfl⟩ (fun hHeld => ?_)
            clear hK K
            refine norm_ (a':=?_) ?_ ?_
            rotate_left
            ·show Act.put _ (some 12) _ = _
             simp only [Act.put,setIfInBounds_toArray,set_cons_zero,set_cons_succ,i64_w,i32_w]
             rfl
            exact norm_ (by first | (simp only [putAll,Act.put,setIfInBounds_toArray,set_cons_zero,set_cons_succ]; done) | (simp only [putAll,Act.put,setIfInBounds_toArray,set_cons_zero,set_cons_succ]; rfl)) (hJ1_7 (v331,gb334) _ ⟨hHeld,(rA HO332.out),(by (with_reducible repeat (first | apply Kd.V_alloc | apply Kd.V_drewN | apply Kd.V_drew)); exact Kd.V_mono HO_315000.out (fun _ hk => ⟨hk.1.1,⟨hk.1.2.1,⟨hk.1.2.2.1,⟨hk.1.2.2.2,hk.2⟩⟩⟩⟩)),(kA BK314.out),(kA BK315.out),(kA BK334.out),GW334.out,GE334.out,NB314_334.out,NB334_314.out,NB315_334.out,NB334_315.out,bA⟩)
           ·skip
            refine box_step ?hg (N:=13) ?hd (cs := #[.string (⟨#[]⟩ : ByteArray),.int .i64 0,.string (⟨#[]⟩ : ByteArray)]) (t:=71) ?hr ?_; (case hd => rfl); (case hg => rfl); (case hr => first | (go_simp; done) | (go_simp; rfl))
            intro gb335 hg w67 hbox hb
            have n0_ := Aside0.mk (Kd.V_below (Kd.V_elderB (by (with_reducible repeat (first | apply Kd.V_alloc | apply Kd.V_drewN | apply Kd.V_drew)); exact HO_315000.out) gb335 (Nat.le_of_eq hg.symm)) hb)
            have n1_ := Aside0.mk (Kd.R_below (Kd.R_elderB (rA HO332.out) gb335 (Nat.le_of_eq hg.symm)) hb)
            have n2_ := Aside0.mk (blk_below (g:=gb314) (o:=.cells #[.slice A0_0 l0_0.length c0_0,.int .i64 a0_1] 28 (0,0)) (kA BK314.out) hb)
            have n3_ := Aside0.mk (blk_below (g:=gb315) (o:=.cells #[.slice none 0 0,.int .i64 0] 28 (0,0)) (kA BK315.out) hb)
            have n4_ := Aside0.mk (below_step bA hb)
            have n5_ := Aside0.mk (hbox)
            have n6_ := Aside0.mk ((by rw [hg]; exact (below_size bA) : w.heap.size ≤ gb335))
            have n7_ := Aside0.mk ((by rw [hg]; exact (below_size bA) : w.heap.size ≤ gb335))
            have n8_ := Aside0.mk ((by rw [hg]; exact Nat.ne_of_lt (blk_lt (g:=gb314) (o:=.cells #[.slice A0_0 l0_0.length c0_0,.int .i64 a0_1] 28 (0,0)) (kA BK314.out)) : gb314 ≠ gb335))
            have n9_ := Aside0.mk ((by rw [hg]; exact Nat.ne_of_gt (blk_lt (g:=gb314) (o:=.cells #[.slice A0_0 l0_0.length c0_0,.int .i64 a0_1] 28 (0,0)) (kA BK314.out)) : gb335 ≠ gb314))
            have n10_ := Aside0.mk ((by rw [hg]; exact Nat.ne_of_lt (blk_lt (g:=gb315) (o:=.cells #[.slice none 0 0,.int .i64 0] 28 (0,0)) (kA BK315.out)) : gb315 ≠ gb335))
            have n11_ := Aside0.mk ((by rw [hg]; exact Nat.ne_of_gt (blk_lt (g:=gb315) (o:=.cells #[.slice none 0 0,.int .i64 0] 28 (0,0)) (kA BK315.out)) : gb335 ≠ gb315))
            clear HO_315000
            clear HO332
            clear BK314
            clear BK315
            clear HB
            have HO_315000 := n0_
            have HO332 := n1_
            have BK314 := n2_
            have BK315 := n3_
            have HB := n4_
            have BK335 := n5_
            have GW335 := n6_
            have GE335 := n7_
            have NB314_335 := n8_
            have NB335_314 := n9_
            have NB315_335 := n10_
            have NB335_315 := n11_
            clear n0_ n1_ n2_ n3_ n4_ n5_ n6_ n7_ n8_ n9_ n10_ n11_
            clear hb hbox hg
            refine hK.out _ _ ⟨(blk_cell BK314.out 0).trans rfl,(blk_cell BK314.out 1).trans rfl⟩ (fun hHeld => ?_)
            clear hK K
            refine norm_ (a':=?_) ?_ ?_
            rotate_left
            ·show Act.put _ (some 13) _ = _
             simp only [Act.put,setIfInBounds_toArray,set_cons_zero,set_cons_succ,i64_w,i32_w]
             rfl
            exact norm_ (by first | (simp only [putAll,Act.put,setIfInBounds_toArray,set_cons_zero,set_cons_succ]; done) | (simp only [putAll,Act.put,setIfInBounds_toArray,set_cons_zero,set_cons_succ]; rfl)) (hJ1_8 (v331,gb335) _ ⟨hHeld,(rA HO332.out),(by (with_reducible repeat (first | apply Kd.V_alloc | apply Kd.V_drewN | apply Kd.V_drew)); exact Kd.V_mono HO_315000.out (fun _ hk => ⟨hk.1.1,⟨hk.1.2.1,⟨hk.1.2.2.1,⟨hk.1.2.2.2,hk.2⟩⟩⟩⟩)),(kA BK314.out),(kA BK315.out),(kA BK335.out),GW335.out,GE335.out,NB314_335.out,NB335_314.out,NB315_335.out,NB335_315.out,bA⟩)
         ·skip
          rintro ⟨gb334,gb335⟩ w67 ⟨hS_,h0_,h1_,h2_,h3_,h4_,h5_,h6_,h7_,h8_,h9_,h10_,h11_,h12_,h13_,h14_,h15_,h16_,h17_,h18_,h19_⟩
          have n0_ : Aside0 (Kd.V k71 71 w67 w.heap.size (fun k_ => (P0_0_ k_ ∨ w.heap.size ≤ k_) ∧ k_ ≠ gb314 ∧ k_ ≠ gb315 ∧ k_ ≠ gb334 ∧ k_ ≠ gb335) (.slice A0_0 l0_0.length c0_0) l0_0) := ⟨h0_⟩
          have n1_ : Aside0 (w67.heap[gb314]? = some (.cells #[.slice A0_0 l0_0.length c0_0,.int .i64 a0_1] 28 (0,0))) := ⟨h1_⟩
          have n2_ : Aside0 (w67.heap[gb315]? = some (.cells #[.slice none 0 0,.int .i64 0] 28 (0,0))) := ⟨h2_⟩
          have n3_ : Aside0 (w67.heap[gb334]? = some (.cells #[.slice none 0 0,.int .i64 0] 28 (0,0))) := ⟨h3_⟩
          have n4_ : Aside0 (w67.heap[gb335]? = some (.cells #[.string (⟨#[]⟩ : ByteArray),.int .i64 0,.string (⟨#[]⟩ : ByteArray)] 71 (0,0))) := ⟨h4_⟩
          have n5_ : Aside0 (w.heap.size ≤ gb334) := ⟨h5_⟩
          have n6_ : Aside0 (w.heap.size ≤ gb334) := ⟨h6_⟩
          have n7_ : Aside0 (gb314 ≠ gb334) := ⟨h7_⟩
          have n8_ : Aside0 (gb334 ≠ gb314) := ⟨h8_⟩
          have n9_ : Aside0 (gb315 ≠ gb334) := ⟨h9_⟩
          have n10_ : Aside0 (gb334 ≠ gb315) := ⟨h10_⟩
          have n11_ : Aside0 (gb335 ≠ gb334) := ⟨h11_⟩
          have n12_ : Aside0 (gb334 ≠ gb335) := ⟨h12_⟩
          have n13_ : Aside0 (w.heap.size ≤ gb335) := ⟨h13_⟩
          have n14_ : Aside0 (w.heap.size ≤ gb335) := ⟨h14_⟩
          have n15_ : Aside0 (gb314 ≠ gb335) := ⟨h15_⟩
          have n16_ : Aside0 (gb335 ≠ gb314) := ⟨h16_⟩
          have n17_ : Aside0 (gb315 ≠ gb335) := ⟨h17_⟩
          have n18_ : Aside0 (gb335 ≠ gb315) := ⟨h18_⟩
          have n19_ : Aside0 (Below w.heap.size w w67) := ⟨h19_⟩
          clear HO_315000
          clear BK314
          clear BK315
          clear HB
          clear h0_ h1_ h2_ h3_ h4_ h5_ h6_ h7_ h8_ h9_ h10_ h11_ h12_ h13_ h14_ h15_ h16_ h17_ h18_ h19_
          have HO_315000 := n0_
          have BK314 := n1_
          have BK315 := n2_
          have BK334 := n3_
          have BK335 := n4_
          have GW334 := n5_
          have GE334 := n6_
          have NB314_334 := n7_
          have NB334_314 := n8_
          have NB315_334 := n9_
          have NB334_315 := n10_
          have NB335_334 := n11_
          have NB334_335 := n12_
          have GW335 := n13_
          have GE335 := n14_
          have NB314_335 := n15_
          have NB335_314 := n16_
          have NB315_335 := n17_
          have NB335_315 := n18_
          have HB := n19_
          clear n0_ n1_ n2_ n3_ n4_ n5_ n6_ n7_ n8_ n9_ n10_ n11_ n12_ n13_ n14_ n15_ n16_ n17_ n18_ n19_
          have hHeld : w67.cell? ⟨gb314,0,none⟩ = some (.slice A0_0 l0_0.length c0_0) ∧ w67.cell? ⟨gb314,1,none⟩ = some (.int .i64 a0_1) := hS_
          refine norm_ (a':=?_) ?_ ?_
          rotate_left
          ·simp only [putAll,Act.put,setIfInBounds_toArray,set_cons_zero,set_cons_succ]
           rfl
          refine one_ (i:=1) (N:=some 47) (bm 11 511) rfl rfl (one_of HT_.out (by kernel_rfl)) (by decide) (fun K hK => ?_)
          refine goes_ Try.func32 (by kernel_rfl) rfl #[.agg #[.slice A0_0 l0_0.length c0_0,.int .i64 a0_1]] (by rfl) rfl rfl mA ?_
          with_reducible refine (impl_Store_copied.calls _ _ l0_0 a0_1 t330 t333 _ ?side1 ?side2 A32.out).mono ?_
          (case side1 => repeat (first | exact (Kd.V_reads' HO_315000.out).2.2 | (with_reducible refine Kd.C_alloc ?_ _) | (with_reducible refine Kd.C_drewN ?_ _) | (with_reducible refine Kd.C_drew ?_)))
          (case side2 => exact (Kd.V_reads' HO_315000.out).2.1)
          rintro e w68 ⟨v331,rfl,ho0,hb⟩
          refine ⟨_,rfl,?_⟩
          have n0_ := Aside0.mk (Kd.V_elder' (by (with_reducible repeat (first | apply Kd.V_alloc | apply Kd.V_drewN | apply Kd.V_drew)); exact HO_315000.out) (Kd.R_base ho0) hb)
          have n1_ := Aside0.mk (Kd.R_lower (Kd.R_newB (Kd.R_newM (M:=fun k_ => (w.heap.size ≤ k_)) ho0 (below_size bA) (fun k_ h_ => h_)) (g:=gb335) (o:=.cells #[.string (⟨#[]⟩ : ByteArray),.int .i64 0,.string (⟨#[]⟩ : ByteArray)] 71 (0,0)) (kA BK335.out)) (below_size bA))
          have n2_ := Aside0.mk (blk_below (g:=gb314) (o:=.cells #[.slice A0_0 l0_0.length c0_0,.int .i64 a0_1] 28 (0,0)) (kA BK314.out) hb)
          have n3_ := Aside0.mk (blk_below (g:=gb315) (o:=.cells #[.slice none 0 0,.int .i64 0] 28 (0,0)) (kA BK315.out) hb)
          have n4_ := Aside0.mk (blk_below (g:=gb334) (o:=.cells #[.slice none 0 0,.int .i64 0] 28 (0,0)) (kA BK334.out) hb)
          have n5_ := Aside0.mk (blk_below (g:=gb335) (o:=.cells #[.string (⟨#[]⟩ : ByteArray),.int .i64 0,.string (⟨#[]⟩ : ByteArray)] 71 (0,0)) (kA BK335.out) hb)
          have n6_ := Aside0.mk (below_step bA hb)
          clear HO_315000
          clear BK314
          clear BK315
          clear BK334
          clear BK335
          clear HB
          have HO_315000 := n0_
          have HO332 := n1_
          have BK314 := n2_
          have BK315 := n3_
          have BK334 := n4_
          have BK335 := n5_
          have HB := n6_
          clear n0_ n1_ n2_ n3_ n4_ n5_ n6_
          (try clear hb)
          (try clear hb2)
          (try clear hk)
          (try clear hi)
          (try clear ho0)
          refine hK.out _ _ ⟨(blk_cell BK314.out 0).trans rfl,(blk_cell BK314.out 1).trans rfl⟩ (fun hHeld => ?_)
          clear hK K
          refine norm_ (a':=?_) ?_ ?_
          rotate_left
          ·show Act.put _ (some 47) _ = _
           simp only [Act.put,setIfInBounds_toArray,set_cons_zero,set_cons_succ,i64_w,i32_w]
           rfl
          exact norm_ (by first | (simp only [putAll,Act.put,setIfInBounds_toArray,set_cons_zero,set_cons_succ]; done) | (simp only [putAll,Act.put,setIfInBounds_toArray,set_cons_zero,set_cons_succ]; rfl)) (hJ1_7_8 (v331,gb334,gb335) _ ⟨hHeld,(by (with_reducible repeat (first | apply Kd.R_alloc | apply Kd.R_drewN | apply Kd.R_drew)); exact Kd.R_mono HO332.out (fun _ hk => ⟨hk.1.1,hk.2⟩)),(by (with_reducible repeat (first | apply Kd.V_alloc | apply Kd.V_drewN | apply Kd.V_drew)); exact Kd.V_mono HO_315000.out (fun _ hk => ⟨hk.1.1,⟨hk.2,⟨hk.1.2.1,⟨hk.1.2.2.1,⟨hk.1.2.2.2.1,hk.1.2.2.2.2⟩⟩⟩⟩⟩)),(kA BK314.out),(kA BK315.out),(kA BK334.out),(kA BK335.out),GW334.out,GE334.out,NB314_334.out,NB334_314.out,NB315_334.out,NB334_315.out,NB335_334.out,NB334_335.out,GW335.out,GE335.out,NB314_335.out,NB335_314.out,NB315_335.out,NB335_315.out,bA⟩)
        ·skip
         rintro ⟨v331,gb335⟩ w67 ⟨hS_,h0_,h1_,h2_,h3_,h4_,h5_,h6_,h7_,h8_,h9_,h10_,h11_⟩
         have n0_ : Aside0 (Kd.R k71 71 w67 w.heap.size (fun k_ => (w.heap.size ≤ k_) ∧ k_ ≠ gb335) v331 t330) := ⟨h0_⟩
         have n1_ : Aside0 (Kd.V k71 71 w67 w.heap.size (fun k_ => (P0_0_ k_ ∨ w.heap.size ≤ k_) ∧ some k_ ≠ (v331 : Value).ownBlock ∧ k_ ≠ gb314 ∧ k_ ≠ gb315 ∧ k_ ≠ gb335) (.slice A0_0 l0_0.length c0_0) l0_0) := ⟨h1_⟩
         have n2_ : Aside0 (w67.heap[gb314]? = some (.cells #[.slice A0_0 l0_0.length c0_0,.int .i64 a0_1] 28 (0,0))) := ⟨h2_⟩
         have n3_ : Aside0 (w67.heap[gb315]? = some (.cells #[.slice none 0 0,.int .i64 0] 28 (0,0))) := ⟨h3_⟩
         have n4_ : Aside0 (w67.heap[gb335]? = some (.cells #[.string (⟨#[]⟩ : ByteArray),.int .i64 0,.string (⟨#[]⟩ : ByteArray)] 71 (0,0))) := ⟨h4_⟩
         have n5_ : Aside0 (w.heap.size ≤ gb335) := ⟨h5_⟩
         have n6_ : Aside0 (w.heap.size ≤ gb335) := ⟨h6_⟩
         have n7_ : Aside0 (gb314 ≠ gb335) := ⟨h7_⟩
         have n8_ : Aside0 (gb335 ≠ gb314) := ⟨h8_⟩
         have n9_ : Aside0 (gb315 ≠ gb335) := ⟨h9_⟩
         have n10_ : Aside0 (gb335 ≠ gb315) := ⟨h10_⟩
         have n11_ : Aside0 (Below w.heap.size w w67) := ⟨h11_⟩
         clear HO_315000
         clear BK314
         clear BK315
         clear HB
         clear h0_ h1_ h2_ h3_ h4_ h5_ h6_ h7_ h8_ h9_ h10_ h11_
         have HO332 := n0_
         have HO_315000 := n1_
         have BK314 := n2_
         have BK315 := n3_
         have BK335 := n4_
         have GW335 := n5_
         have GE335 := n6_
         have NB314_335 := n7_
         have NB335_314 := n8_
         have NB315_335 := n9_
         have NB335_315 := n10_
         have HB := n11_
         clear n0_ n1_ n2_ n3_ n4_ n5_ n6_ n7_ n8_ n9_ n10_ n11_
         have hHeld : w67.cell? ⟨gb314,0,none⟩ = some (.slice A0_0 l0_0.length c0_0) ∧ w67.cell? ⟨gb314,1,none⟩ = some (.int .i64 a0_1) := hS_
         refine norm_ (a':=?_) ?_ ?_
         rotate_left
         ·simp only [putAll,Act.put,setIfInBounds_toArray,set_cons_zero,set_cons_succ]
          rfl
         refine one_ (i:=7) (N:=some 12) (bm 11 511) rfl rfl (one_of HT_.out (by kernel_rfl)) (by decide) (fun K hK => ?_)
         refine box_step ?hg (N:=12) ?hd (cs := #[.slice none 0 0,.int .i64 0]) (t:=28) ?hr ?_; (case hd => rfl); (case hg => rfl); (case hr => first | (go_simp; done) | (go_simp; rfl))
         intro gb334 hg w68 hbox hb
         have n0_ := Aside0.mk (Kd.V_below (Kd.V_elderB (by (with_reducible repeat (first | apply Kd.V_alloc | apply Kd.V_drewN | apply Kd.V_drew)); exact HO_315000.out) gb334 (Nat.le_of_eq hg.symm)) hb)
         have n1_ := Aside0.mk (Kd.R_below (rA HO332.out) hb)
         have n2_ := Aside0.mk (blk_below (g:=gb314) (o:=.cells #[.slice A0_0 l0_0.length c0_0,.int .i64 a0_1] 28 (0,0)) (kA BK314.out) hb)
         have n3_ := Aside0.mk (blk_below (g:=gb315) (o:=.cells #[.slice none 0 0,.int .i64 0] 28 (0,0)) (kA BK315.out) hb)
         have n4_ := Aside0.mk (blk_below (g:=gb335) (o:=.cells #[.string (⟨#[]⟩ : ByteArray),.int .i64 0,.string (⟨#[]⟩ : ByteArray)] 71 (0,0)) (kA BK335.out) hb)
         have n5_ := Aside0.mk (below_step bA hb)
         have n6_ := Aside0.mk (hbox)
         have n7_ := Aside0.mk ((by rw [hg]; exact (below_size bA) : w.heap.size ≤ gb334))
         have n8_ := Aside0.mk ((by rw [hg]; exact (below_size bA) : w.heap.size ≤ gb334))
         have n9_ := Aside0.mk ((by rw [hg]; exact Nat.ne_of_lt (blk_lt (g:=gb314) (o:=.cells #[.slice A0_0 l0_0.length c0_0,.int .i64 a0_1] 28 (0,0)) (kA BK314.out)) : gb314 ≠ gb334))
         have n10_ := Aside0.mk ((by rw [hg]; exact Nat.ne_of_gt (blk_lt (g:=gb314) (o:=.cells #[.slice A0_0 l0_0.length c0_0,.int .i64 a0_1] 28 (0,0)) (kA BK314.out)) : gb334 ≠ gb314))
         have n11_ := Aside0.mk ((by rw [hg]; exact Nat.ne_of_lt (blk_lt (g:=gb315) (o:=.cells #[.slice none 0 0,.int .i64 0] 28 (0,0)) (kA BK315.out)) : gb315 ≠ gb334))
         have n12_ := Aside0.mk ((by rw [hg]; exact Nat.ne_of_gt (blk_lt (g:=gb315) (o:=.cells #[.slice none 0 0,.int .i64 0] 28 (0,0)) (kA BK315.out)) : gb334 ≠ gb315))
         have n13_ := Aside0.mk ((by rw [hg]; exact Nat.ne_of_lt (blk_lt (g:=gb335) (o:=.cells #[.string (⟨#[]⟩ : ByteArray),.int .i64 0,.string (⟨#[]⟩ : ByteArray)] 71 (0,0)) (kA BK335.out)) : gb335 ≠ gb334))
         have n14_ := Aside0.mk ((by rw [hg]; exact Nat.ne_of_gt (blk_lt (g:=gb335) (o:=.cells #[.string (⟨#[]⟩ : ByteArray),.int .i64 0,.string (⟨#[]⟩ : ByteArray)] 71 (0,0)) (kA BK335.out)) : gb334 ≠ gb335))
         clear HO_315000
         clear HO332
         clear BK314
         clear BK315
         clear BK335
         clear HB
         have HO_315000 := n0_
         have HO332 := n1_
         have BK314 := n2_
         have BK315 := n3_
         have BK335 := n4_
         have HB := n5_
         have BK334 := n6_
         have GW334 := n7_
         have GE334 := n8_
         have NB314_334 := n9_
         have NB334_314 := n10_
         have NB315_334 := n11_
         have NB334_315 := n12_
         have NB335_334 := n13_
         have NB334_335 := n14_
         clear n0_ n1_ n2_ n3_ n4_ n5_ n6_ n7_ n8_ n9_ n10_ n11_ n12_ n13_ n14_
         clear hb hbox hg
         refine hK.out _ _ ⟨(blk_cell BK314.out 0).trans rfl,(blk_cell BK314.out 1).trans rfl⟩ (fun hHeld => ?_)
         clear hK K
         refine norm_ (a':=?_) ?_ ?_
         rotate_left
         ·show Act.put _ (some 12) _ = _
          simp only [Act.put,setIfInBounds_toArray,set_cons_zero,set_cons_succ,i64_w,i32_w]
          rfl
         exact norm_ (by first | (simp only [putAll,Act.put,setIfInBounds_toArray,set_cons_zero,set_cons_succ]; done) | (simp only [putAll,Act.put,setIfInBounds_toArray,set_cons_zero,set_cons_succ]; rfl)) (hJ1_7_8 (v331,gb334,gb335) _ ⟨hHeld,(rA HO332.out),(by (with_reducible repeat (first | apply Kd.V_alloc | apply Kd.V_drewN | apply Kd.V_drew)); exact Kd.V_mono HO_315000.out (fun _ hk => ⟨hk.1.1,⟨hk.1.2.1,⟨hk.1.2.2.1,⟨hk.1.2.2.2.1,⟨hk.2,hk.1.2.2.2.2⟩⟩⟩⟩⟩)),(kA BK314.out),(kA BK315.out),(kA BK334.out),(kA BK335.out),GW334.out,GE334.out,NB314_334.out,NB334_314.out,NB315_334.out,NB334_315.out,NB335_334.out,NB334_335.out,GW335.out,GE335.out,NB314_335.out,NB335_314.out,NB315_335.out,NB335_315.out,bA⟩)
       ·skip
        rintro ⟨v331,gb334⟩ w67 ⟨hS_,h0_,h1_,h2_,h3_,h4_,h5_,h6_,h7_,h8_,h9_,h10_,h11_⟩
        have n0_ : Aside0 (Kd.R k71 71 w67 w.heap.size (fun k_ => (w.heap.size ≤ k_)) v331 t330) := ⟨h0_⟩
        have n1_ : Aside0 (Kd.V k71 71 w67 w.heap.size (fun k_ => (P0_0_ k_ ∨ w.heap.size ≤ k_) ∧ some k_ ≠ (v331 : Value).ownBlock ∧ k_ ≠ gb314 ∧ k_ ≠ gb315 ∧ k_ ≠ gb334) (.slice A0_0 l0_0.length c0_0) l0_0) := ⟨h1_⟩
        have n2_ : Aside0 (w67.heap[gb314]? = some (.cells #[.slice A0_0 l0_0.length c0_0,.int .i64 a0_1] 28 (0,0))) := ⟨h2_⟩
        have n3_ : Aside0 (w67.heap[gb315]? = some (.cells #[.slice none 0 0,.int .i64 0] 28 (0,0))) := ⟨h3_⟩
        have n4_ : Aside0 (w67.heap[gb334]? = some (.cells #[.slice none 0 0,.int .i64 0] 28 (0,0))) := ⟨h4_⟩
        have n5_ : Aside0 (w.heap.size ≤ gb334) := ⟨h5_⟩
        have n6_ : Aside0 (w.heap.size ≤ gb334) := ⟨h6_⟩
        have n7_ : Aside0 (gb314 ≠ gb334) := ⟨h7_⟩
        have n8_ : Aside0 (gb334 ≠ gb314) := ⟨h8_⟩
        have n9_ : Aside0 (gb315 ≠ gb334) := ⟨h9_⟩
        have n10_ : Aside0 (gb334 ≠ gb315) := ⟨h10_⟩
        have n11_ : Aside0 (Below w.heap.size w w67) := ⟨h11_⟩
        clear HO_315000
        clear BK314
        clear BK315
        clear HB
        clear h0_ h1_ h2_ h3_ h4_ h5_ h6_ h7_ h8_ h9_ h10_ h11_
        have HO332 := n0_
        have HO_315000 := n1_
        have BK314 := n2_
        have BK315 := n3_
        have BK334 := n4_
        have GW334 := n5_
        have GE334 := n6_
        have NB314_334 := n7_
        have NB334_314 := n8_
        have NB315_334 := n9_
        have NB334_315 := n10_
        have HB := n11_
        clear n0_ n1_ n2_ n3_ n4_ n5_ n6_ n7_ n8_ n9_ n10_ n11_
        have hHeld : w67.cell? ⟨gb314,0,none⟩ = some (.slice A0_0 l0_0.length c0_0) ∧ w67.cell? ⟨gb314,1,none⟩ = some (.int .i64 a0_1) := hS_
        refine norm_ (a':=?_) ?_ ?_
        rotate_left
        ·simp only [putAll,Act.put,setIfInBounds_toArray,set_cons_zero,set_cons_succ]
         rfl
        refine one_ (i:=8) (N:=some 13) (bm 11 511) rfl rfl (one_of HT_.out (by kernel_rfl)) (by decide) (fun K hK => ?_)
        refine box_step ?hg (N:=13) ?hd (cs := #[.string (⟨#[]⟩ : ByteArray),.int .i64 0,.string (⟨#[]⟩ : ByteArray)]) (t:=71) ?hr ?_; (case hd => rfl); (case hg => rfl); (case hr => first | (go_simp; done) | (go_simp; rfl))
        intro gb335 hg w68 hbox hb
        have n0_ := Aside0.mk (Kd.V_below (Kd.V_elderB (by (with_reducible repeat (first | apply Kd.V_alloc | apply Kd.V_drewN | apply Kd.V_drew)); exact HO_315000.out) gb335 (Nat.le_of_eq hg.symm)) hb)
        have n1_ := Aside0.mk (Kd.R_below (Kd.R_elderB (rA HO332.out) gb335 (Nat.le_of_eq hg.symm)) hb)
        have n2_ := Aside0.mk (blk_below (g:=gb314) (o:=.cells #[.slice A0_0 l0_0.length c0_0,.int .i64 a0_1] 28 (0,0)) (kA BK314.out) hb)
        have n3_ := Aside0.mk (blk_below (g:=gb315) (o:=.cells #[.slice none 0 0,.int .i64 0] 28 (0,0)) (kA BK315.out) hb)
        have n4_ := Aside0.mk (blk_below (g:=gb334) (o:=.cells #[.slice none 0 0,.int .i64 0] 28 (0,0)) (kA BK334.out) hb)
        have n5_ := Aside0.mk (below_step bA hb)
        have n6_ := Aside0.mk (hbox)
        have n7_ := Aside0.mk ((by rw [hg]; exact (below_size bA) : w.heap.size ≤ gb335))
        have n8_ := Aside0.mk ((by rw [hg]; exact (below_size bA) : w.heap.size ≤ gb335))
        have n9_ := Aside0.mk ((by rw [hg]; exact Nat.ne_of_lt (blk_lt (g:=gb314) (o:=.cells #[.slice A0_0 l0_0.length c0_0,.int .i64 a0_1] 28 (0,0)) (kA BK314.out)) : gb314 ≠ gb335))
        have n10_ := Aside0.mk ((by rw [hg]; exact Nat.ne_of_gt (blk_lt (g:=gb314) (o:=.cells #[.slice A0_0 l0_0.length c0_0,.int .i64 a0_1] 28 (0,0)) (kA BK314.out)) : gb335 ≠ gb314))
        have n11_ := Aside0.mk ((by rw [hg]; exact Nat.ne_of_lt (blk_lt (g:=gb315) (o:=.cells #[.slice none 0 0,.int .i64 0] 28 (0,0)) (kA BK315.out)) : gb315 ≠ gb335))
        have n12_ := Aside0.mk ((by rw [hg]; exact Nat.ne_of_gt (blk_lt (g:=gb315) (o:=.cells #[.slice none 0 0,.int .i64 0] 28 (0,0)) (kA BK315.out)) : gb335 ≠ gb315))
        have n13_ := Aside0.mk ((by rw [hg]; exact Nat.ne_of_lt (blk_lt (g:=gb334) (o:=.cells #[.slice none 0 0,.int .i64 0] 28 (0,0)) (kA BK334.out)) : gb334 ≠ gb335))
        have n14_ := Aside0.mk ((by rw [hg]; exact Nat.ne_of_gt (blk_lt (g:=gb334) (o:=.cells #[.slice none 0 0,.int .i64 0] 28 (0,0)) (kA BK334.out)) : gb335 ≠ gb334))
        clear HO_315000
        clear HO332
        clear BK314
        clear BK315
        clear BK334
        clear HB
        have HO_315000 := n0_
        have HO332 := n1_
        have BK314 := n2_
        have BK315 := n3_
        have BK334 := n4_
        have HB := n5_
        have BK335 := n6_
        have GW335 := n7_
        have GE335 := n8_
        have NB314_335 := n9_
        have NB335_314 := n10_
        have NB315_335 := n11_
        have NB335_315 := n12_
        have NB334_335 := n13_
        have NB335_334 := n14_
        clear n0_ n1_ n2_ n3_ n4_ n5_ n6_ n7_ n8_ n9_ n10_ n11_ n12_ n13_ n14_
        clear hb hbox hg
        refine hK.out _ _ ⟨(blk_cell BK314.out 0).trans rfl,(blk_cell BK314.out 1).trans rfl⟩ (fun hHeld => ?_)
        clear hK K
        refine norm_ (a':=?_) ?_ ?_
        rotate_left
        ·show Act.put _ (some 13) _ = _
         simp only [Act.put,setIfInBounds_toArray,set_cons_zero,set_cons_succ,i64_w,i32_w]
         rfl
        exact norm_ (by first | (simp only [putAll,Act.put,setIfInBounds_toArray,set_cons_zero,set_cons_succ]; done) | (simp only [putAll,Act.put,setIfInBounds_toArray,set_cons_zero,set_cons_succ]; rfl)) (hJ1_7_8 (v331,gb334,gb335) _ ⟨hHeld,(rA HO332.out),(by (with_reducible repeat (first | apply Kd.V_alloc | apply Kd.V_drewN | apply Kd.V_drew)); exact Kd.V_mono HO_315000.out (fun _ hk => ⟨hk.1.1,⟨hk.1.2.1,⟨hk.1.2.2.1,⟨hk.1.2.2.2.1,⟨hk.1.2.2.2.2,hk.2⟩⟩⟩⟩⟩)),(kA BK314.out),(kA BK315.out),(kA BK334.out),(kA BK335.out),GW334.out,GE334.out,NB314_334.out,NB334_314.out,NB315_334.out,NB334_315.out,NB335_334.out,NB334_335.out,GW335.out,GE335.out,NB314_335.out,NB335_314.out,NB315_335.out,NB335_315.out,bA⟩)
      rintro ⟨v331,gb334,gb335⟩ w68 ⟨hS_,h0_,h1_,h2_,h3_,h4_,h5_,h6_,h7_,h8_,h9_,h10_,h11_,h12_,h13_,h14_,h15_,h16_,h17_,h18_,h19_,h20_⟩
      have n0_ : Aside0 (Kd.R k71 71 w68 w.heap.size (fun k_ => (w.heap.size ≤ k_) ∧ k_ ≠ gb335) v331 t330) := ⟨h0_⟩
      have n1_ : Aside0 (Kd.V k71 71 w68 w.heap.size (fun k_ => (P0_0_ k_ ∨ w.heap.size ≤ k_) ∧ some k_ ≠ (v331 : Value).ownBlock ∧ k_ ≠ gb314 ∧ k_ ≠ gb315 ∧ k_ ≠ gb334 ∧ k_ ≠ gb335) (.slice A0_0 l0_0.length c0_0) l0_0) := ⟨h1_⟩
      have n2_ : Aside0 (w68.heap[gb314]? = some (.cells #[.slice A0_0 l0_0.length c0_0,.int .i64 a0_1] 28 (0,0))) := ⟨h2_⟩
      have n3_ : Aside0 (w68.heap[gb315]? = some (.cells #[.slice none 0 0,.int .i64 0] 28 (0,0))) := ⟨h3_⟩
      have n4_ : Aside0 (w68.heap[gb334]? = some (.cells #[.slice none 0 0,.int .i64 0] 28 (0,0))) := ⟨h4_⟩
      have n5_ : Aside0 (w68.heap[gb335]? = some (.cells #[.string (⟨#[]⟩ : ByteArray),.int .i64 0,.string (⟨#[]⟩ : ByteArray)] 71 (0,0))) := ⟨h5_⟩
      have n6_ : Aside0 (w.heap.size ≤ gb334) := ⟨h6_⟩
      have n7_ : Aside0 (w.heap.size ≤ gb334) := ⟨h7_⟩
      have n8_ : Aside0 (gb314 ≠ gb334) := ⟨h8_⟩
      have n9_ : Aside0 (gb334 ≠ gb314) := ⟨h9_⟩
      have n10_ : Aside0 (gb315 ≠ gb334) := ⟨h10_⟩
      have n11_ : Aside0 (gb334 ≠ gb315) := ⟨h11_⟩
      have n12_ : Aside0 (gb335 ≠ gb334) := ⟨h12_⟩
      have n13_ : Aside0 (gb334 ≠ gb335) := ⟨h13_⟩
      have n14_ : Aside0 (w.heap.size ≤ gb335) := ⟨h14_⟩
      have n15_ : Aside0 (w.heap.size ≤ gb335) := ⟨h15_⟩
      have n16_ : Aside0 (gb314 ≠ gb335) := ⟨h16_⟩
      have n17_ : Aside0 (gb335 ≠ gb314) := ⟨h17_⟩
      have n18_ : Aside0 (gb315 ≠ gb335) := ⟨h18_⟩
      have n19_ : Aside0 (gb335 ≠ gb315) := ⟨h19_⟩
      have n20_ : Aside0 (Below w.heap.size w w68) := ⟨h20_⟩
      clear HO_315000
      clear BK314
      clear BK315
      clear HB
      clear h0_ h1_ h2_ h3_ h4_ h5_ h6_ h7_ h8_ h9_ h10_ h11_ h12_ h13_ h14_ h15_ h16_ h17_ h18_ h19_ h20_
      have HO332 := n0_
      have HO_315000 := n1_
      have BK314 := n2_
      have BK315 := n3_
      have BK334 := n4_
      have BK335 := n5_
      have GW334 := n6_
      have GE334 := n7_
      have NB314_334 := n8_
      have NB334_314 := n9_
      have NB315_334 := n10_
      have NB334_315 := n11_
      have NB335_334 := n12_
      have NB334_335 := n13_
      have GW335 := n14_
      have GE335 := n15_
      have NB314_335 := n16_
      have NB335_314 := n17_
      have NB315_335 := n18_
      have NB335_315 := n19_
      have HB := n20_
      clear n0_ n1_ n2_ n3_ n4_ n5_ n6_ n7_ n8_ n9_ n10_ n11_ n12_ n13_ n14_ n15_ n16_ n17_ n18_ n19_ n20_
      have hHeld : w68.cell? ⟨gb314,0,none⟩ = some (.slice A0_0 l0_0.length c0_0) ∧ w68.cell? ⟨gb314,1,none⟩ = some (.int .i64 a0_1) := hS_
      obtain ⟨Ao69,co69,eo69⟩ := Kd.R_slice HO332.out
      (first | subst eo69 | (injection eo69 with f1_ f2_ f3_; have f4_ := f1_.symm; have f5_ := f3_.symm; clear f1_ f2_ f3_; subst f4_; subst f5_))
      refine norm_ (a':=?_) ?_ ?_
      rotate_left
      ·simp only [putAll,Act.put,setIfInBounds_toArray,set_cons_zero,set_cons_succ]
       rfl
      refine one_ (i:=9) (N:=none) (bm 11 1023) rfl rfl (one_of HT_.out (by kernel_rfl)) (by decide) (fun K hK => ?_)
      have hs70 : w68.cell? ⟨gb334,0,none⟩ = some (.slice none 0 0) := (blk_cell BK334.out 0).trans rfl
      have hfs70 := blk_frozen BK334.out 0
      have hns70_0 := NB314_334.out
      have hns70_1 := NB315_334.out
      have hns70_3 := NB335_334.out
      have hms70_0 := NB334_314.out
      have hms70_1 := NB334_315.out
      have hms70_3 := NB334_335.out
      have hs71 : w68.cell? ⟨gb334,1,none⟩ = some (.int .i64 0) := (blk_cell BK334.out 1).trans rfl
      have hfs71 := blk_frozen BK334.out 1
      have hns71_0 := NB314_334.out
      have hns71_1 := NB315_334.out
      have hns71_3 := NB335_334.out
      have hms71_0 := NB334_314.out
      have hms71_1 := NB334_315.out
      have hms71_3 := NB334_335.out
      refine skip_ (w1 := ?_) (by rfl) rfl ?_ ?_
      rotate_left
      ·go_simp
       rfl
      refine hK.out _ _ ⟨((cell_far (p:=⟨gb334,_,none⟩) NB314_334.out _).trans (((cell_far (p:=⟨gb334,_,none⟩) NB314_334.out _).trans (hHeld.1)))),((cell_far (p:=⟨gb334,_,none⟩) NB314_334.out _).trans (((cell_far (p:=⟨gb334,_,none⟩) NB314_334.out _).trans (hHeld.2))))⟩ (fun hHeld => ?_)
      clear hK K
      refine one_ (i:=10) (N:=none) (bm 11 2047) rfl rfl (one_of HT_.out (by kernel_rfl)) (by decide) (fun K hK => ?_)
      have hs72 : w68.cell? ⟨gb335,0,none⟩ = some (.string (⟨#[]⟩ : ByteArray)) := (blk_cell BK335.out 0).trans rfl
      have hfs72 := blk_frozen BK335.out 0
      have hns72_0 := NB314_335.out
      have hns72_1 := NB315_335.out
      have hns72_2 := NB334_335.out
      have hms72_0 := NB335_314.out
      have hms72_1 := NB335_315.out
      have hms72_2 := NB335_334.out
      have hs73 : w68.cell? ⟨gb335,1,none⟩ = some (.int .i64 0) := (blk_cell BK335.out 1).trans rfl
      have hfs73 := blk_frozen BK335.out 1
      have hns73_0 := NB314_335.out
      have hns73_1 := NB315_335.out
      have hns73_2 := NB334_335.out
      have hms73_0 := NB335_314.out
      have hms73_1 := NB335_315.out
      have hms73_2 := NB335_334.out
      have hs74 : w68.cell? ⟨gb335,2,none⟩ = some (.string (⟨#[]⟩ : ByteArray)) := (blk_cell BK335.out 2).trans rfl
      have hfs74 := blk_frozen BK335.out 2
      have hns74_0 := NB314_335.out
      have hns74_1 := NB315_335.out
      have hns74_2 := NB334_335.out
      have hms74_0 := NB335_314.out
      have hms74_1 := NB335_315.out
      have hms74_2 := NB335_334.out
      refine skip_ (w1 := ?_) (by rfl) rfl ?_ ?_
      rotate_left
      ·go_simp
       rfl
      refine hK.out _ _ ⟨((cell_far (p:=⟨gb335,_,none⟩) NB314_335.out _).trans (((cell_far (p:=⟨gb335,_,none⟩) NB314_335.out _).trans (((cell_far (p:=⟨gb335,_,none⟩) NB314_335.out _).trans (hHeld.1)))))),((cell_far (p:=⟨gb335,_,none⟩) NB314_335.out _).trans (((cell_far (p:=⟨gb335,_,none⟩) NB314_335.out _).trans (((cell_far (p:=⟨gb335,_,none⟩) NB314_335.out _).trans (hHeld.2))))))⟩ (fun hHeld => ?_)
      clear hK K
      refine done_ (done_of HT_.out (by kernel_rfl)) ?_
      have hnb75 := NB334_314.out
      have hnc75 := NB314_334.out
      have hnb76 := NB334_315.out
      have hnc76 := NB315_334.out
      have hnb77 := NB334_335.out
      have hnc77 := NB335_334.out
      have hcz78_0 : w68.cell? ⟨gb334,0,none⟩ = some (.slice none 0 0) := (blk_cell BK334.out 0).trans rfl
      have hcz78_1 : w68.cell? ⟨gb334,1,none⟩ = some (.int .i64 0) := (blk_cell BK334.out 1).trans rfl
      have hfz78_0 := blk_frozen BK334.out 0
      have hfz78_1 := blk_frozen BK334.out 1
      have hnb79 := NB335_314.out
      have hnc79 := NB314_335.out
      have hnb80 := NB335_315.out
      have hnc80 := NB315_335.out
      have hcz81_0 : w68.cell? ⟨gb335,0,none⟩ = some (.string (⟨#[]⟩ : ByteArray)) := (blk_cell BK335.out 0).trans rfl
      have hcz81_1 : w68.cell? ⟨gb335,1,none⟩ = some (.int .i64 0) := (blk_cell BK335.out 1).trans rfl
      have hcz81_2 : w68.cell? ⟨gb335,2,none⟩ = some (.string (⟨#[]⟩ : ByteArray)) := (blk_cell BK335.out 2).trans rfl
      have hfz81_0 := blk_frozen BK335.out 0
      have hfz81_1 := blk_frozen BK335.out 1
      have hfz81_2 := blk_frozen BK335.out 2
      try go_wp2_with (first | ((with_reducible refine gate_callee (f:=69) rfl ?_); (try (refine gate_guard (by rfl) ?_; dsimp only)); refine ins_step (w0 := w) w.heap.size rfl (.tmp 60) (.tmp 61) (.tmp 63) rfl _ (.slice Ao69 t330.length co69) t330 (⟨a1,a0_1,a2⟩ : S71) [.string a1,.int .i64 a0_1,.string a2] (fun k_ => (w.heap.size ≤ k_) ∧ k_ ≠ gb335) rfl rfl ?aI (by first | (go_simp; done) | (go_simp; rfl)) ?aP ?aF ?aO ?aB ?aS ?aL ?_; (case aI => have := LMc63.out; omega); (case aP => exact k71_mkM _ _ _ (⟨a1,a0_1,a2⟩ : S71)); (case aB => exact bA); (case aF => exact (fun k_ hk => ⟨(Nat.le_trans (below_size bA) hk),Kd.freshB (g:=gb335) (o:=.cells #[.string a1,.int .i64 a0_1,.string a2] 71 (0,0)) (by (with_reducible repeat (first | refine blk_drewN ?_ _ | refine blk_drew ?_ | refine blk_alloc ?_ _)); refine blk_put (cs := #[.string a1,.int .i64 a0_1,.string (⟨#[]⟩ : ByteArray)]) ?_ 2 _ rfl; (with_reducible repeat (first | refine blk_drewN ?_ _ | refine blk_drew ?_ | refine blk_alloc ?_ _)); refine blk_put (cs := #[.string a1,.int .i64 0,.string (⟨#[]⟩ : ByteArray)]) ?_ 1 _ rfl; (with_reducible repeat (first | refine blk_drewN ?_ _ | refine blk_drew ?_ | refine blk_alloc ?_ _)); refine blk_put (cs := #[.string (⟨#[]⟩ : ByteArray),.int .i64 0,.string (⟨#[]⟩ : ByteArray)]) ?_ 0 _ rfl; (with_reducible repeat (first | refine blk_drewN ?_ _ | refine blk_drew ?_ | refine blk_alloc ?_ _)); refine blk_far ?_ NB335_334.out _; (with_reducible repeat (first | refine blk_drewN ?_ _ | refine blk_drew ?_ | refine blk_alloc ?_ _)); refine blk_far ?_ NB335_334.out _; (with_reducible repeat (first | refine blk_drewN ?_ _ | refine blk_drew ?_ | refine blk_alloc ?_ _)); exact BK335.out) k_ hk⟩)); (case aO => exact (by (with_reducible repeat (first | apply Kd.R_alloc | apply Kd.R_drewN | apply Kd.R_drew)); exact Kd.R_mono (Kd.R_far (p:=⟨gb335,2,none⟩) (Kd.R_far (p:=⟨gb335,1,none⟩) (Kd.R_far (p:=⟨gb335,0,none⟩) (Kd.R_far (p:=⟨gb334,1,none⟩) (Kd.R_far (p:=⟨gb334,0,none⟩) (Kd.R_mono (Kd.R_types HO332.out BK334.out (by decide)) (fun k_ hk => (⟨hk,hk.1.2⟩ : _ ∧ k_ ≠ gb335))) (fun _ hk => hk.1.2) (.slice Ao69 t330.length co69)) (fun _ hk => hk.1.2) (.int .i64 t333)) (fun _ hk => hk.2) (.string a1)) (fun _ hk => hk.2) (.int .i64 a0_1)) (fun _ hk => hk.2) (.string a2)) (fun _ hk => ⟨hk.1.1.1,hk.1.1.2⟩))); (case aS => exact (below_size bA)); (case aL => have := LMc63.out; omega); intro v338 w82 ho hb hg hat; rw [← Ny337.out] at ho; have n0_ := Aside0.mk (Kd.V_afterv (ok := (fun k_ => (P0_0_ k_ ∨ w.heap.size ≤ k_) ∧ k_ ≠ gb314 ∧ k_ ≠ gb315 ∧ k_ ≠ gb334 ∧ k_ ≠ gb335)) (by (with_reducible repeat (first | apply Kd.V_alloc | apply Kd.V_drewN | apply Kd.V_drew)); exact Kd.V_mono (Kd.V_far (p:=⟨gb335,2,none⟩) (Kd.V_far (p:=⟨gb335,1,none⟩) (Kd.V_far (p:=⟨gb335,0,none⟩) (Kd.V_far (p:=⟨gb334,1,none⟩) (Kd.V_far (p:=⟨gb334,0,none⟩) (Kd.V_mono (Kd.V_mono HO_315000.out (fun k_ hk => (⟨hk,hk.2.2.2.2.1⟩ : _ ∧ k_ ≠ gb334))) (fun k_ hk => (⟨hk,hk.1.2.2.2.2.2⟩ : _ ∧ k_ ≠ gb335))) (fun _ hk => hk.1.2) (.slice Ao69 t330.length co69)) (fun _ hk => hk.1.2) (.int .i64 t333)) (fun _ hk => hk.2) (.string a1)) (fun _ hk => hk.2) (.int .i64 a0_1)) (fun _ hk => hk.2) (.string a2)) (fun _ hk => ⟨⟨hk.1.1.1,⟨hk.1.1.2.2.1,⟨hk.1.1.2.2.2.1,⟨hk.1.1.2.2.2.2.1,hk.1.1.2.2.2.2.2⟩⟩⟩⟩,hk.1.1.2.1⟩)) hg hat); have n1_ := Aside0.mk (blk_grown (g:=gb314) (o:=.cells #[.slice A0_0 l0_0.length c0_0,.int .i64 a0_1] 28 (0,0)) (kF BK314.out) hg (Kd.R_ne HO332.out BK314.out (by decide))); have n2_ := Aside0.mk (blk_grown (g:=gb315) (o:=.cells #[.slice none 0 0,.int .i64 0] 28 (0,0)) (kF BK315.out) hg (Kd.R_ne HO332.out BK315.out (by decide))); have n3_ := Aside0.mk (blk_grown (g:=gb334) (o:=.cells #[.slice Ao69 t330.length co69,.int .i64 t333] 28 (0,0)) (by (with_reducible repeat (first | refine blk_drewN ?_ _ | refine blk_drew ?_ | refine blk_alloc ?_ _)); refine blk_far ?_ NB334_335.out _; (with_reducible repeat (first | refine blk_drewN ?_ _ | refine blk_drew ?_ | refine blk_alloc ?_ _)); refine blk_far ?_ NB334_335.out _; (with_reducible repeat (first | refine blk_drewN ?_ _ | refine blk_drew ?_ | refine blk_alloc ?_ _)); refine blk_far ?_ NB334_335.out _; (with_reducible repeat (first | refine blk_drewN ?_ _ | refine blk_drew ?_ | refine blk_alloc ?_ _)); refine blk_put (cs := #[.slice Ao69 t330.length co69,.int .i64 0]) ?_ 1 _ rfl; (with_reducible repeat (first | refine blk_drewN ?_ _ | refine blk_drew ?_ | refine blk_alloc ?_ _)); refine blk_put (cs := #[.slice none 0 0,.int .i64 0]) ?_ 0 _ rfl; (with_reducible repeat (first | refine blk_drewN ?_ _ | refine blk_drew ?_ | refine blk_alloc ?_ _)); exact BK334.out) hg (Kd.R_ne HO332.out BK334.out (by decide))); have n4_ := Aside0.mk (blk_grown (g:=gb335) (o:=.cells #[.string a1,.int .i64 a0_1,.string a2] 71 (0,0)) (by (with_reducible repeat (first | refine blk_drewN ?_ _ | refine blk_drew ?_ | refine blk_alloc ?_ _)); refine blk_put (cs := #[.string a1,.int .i64 a0_1,.string (⟨#[]⟩ : ByteArray)]) ?_ 2 _ rfl; (with_reducible repeat (first | refine blk_drewN ?_ _ | refine blk_drew ?_ | refine blk_alloc ?_ _)); refine blk_put (cs := #[.string a1,.int .i64 0,.string (⟨#[]⟩ : ByteArray)]) ?_ 1 _ rfl; (with_reducible repeat (first | refine blk_drewN ?_ _ | refine blk_drew ?_ | refine blk_alloc ?_ _)); refine blk_put (cs := #[.string (⟨#[]⟩ : ByteArray),.int .i64 0,.string (⟨#[]⟩ : ByteArray)]) ?_ 0 _ rfl; (with_reducible repeat (first | refine blk_drewN ?_ _ | refine blk_drew ?_ | refine blk_alloc ?_ _)); refine blk_far ?_ NB335_334.out _; (with_reducible repeat (first | refine blk_drewN ?_ _ | refine blk_drew ?_ | refine blk_alloc ?_ _)); refine blk_far ?_ NB335_334.out _; (with_reducible repeat (first | refine blk_drewN ?_ _ | refine blk_drew ?_ | refine blk_alloc ?_ _)); exact BK335.out) hg (Kd.R_away HO332.out (fun _ hk => hk.2))); have n5_ := Aside0.mk (hb); have n6_ := Aside0.mk (ho); clear HO_315000; clear BK314; clear BK315; clear BK334; clear BK335; clear HB; clear HO332; have HO_315000 := n0_; have BK314 := n1_; have BK315 := n2_; have BK334 := n3_; have BK335 := n4_; have HB := n5_; have HO339 := n6_; clear n0_ n1_ n2_ n3_ n4_ n5_ n6_; clear ho hb hg hat; obtain ⟨Ao83,co83,eo83⟩ := Kd.R_slice HO339.out; subst eo83; have hcz84_0 : w82.cell? ⟨gb334,0,none⟩ = some (.slice Ao69 t330.length co69) := (blk_cell BK334.out 0).trans rfl; have hcz84_1 : w82.cell? ⟨gb334,1,none⟩ = some (.int .i64 t333) := (blk_cell BK334.out 1).trans rfl; have hfz84_0 := blk_frozen BK334.out 0; have hfz84_1 := blk_frozen BK334.out 1))
      have n0_ : Aside0 (Kd.V k71 71 ((w82.setCell ⟨gb334,0,none⟩ (.slice Ao83 y337.length co83)).setCell ⟨gb334,1,none⟩ (.int .i64 (wrap64 (t333 + 1)))) w.heap.size (fun k_ => (P0_0_ k_ ∨ w.heap.size ≤ k_) ∧ some k_ ≠ (.slice Ao83 y337.length co83 : Value).ownBlock ∧ k_ ≠ gb314 ∧ k_ ≠ gb315 ∧ k_ ≠ gb334 ∧ k_ ≠ gb335) (.slice A0_0 l0_0.length c0_0) l0_0) := ⟨by (with_reducible repeat (first | apply Kd.V_alloc | apply Kd.V_drewN | apply Kd.V_drew)); exact Kd.V_mono (Kd.V_far (p:=⟨gb334,1,none⟩) (Kd.V_far (p:=⟨gb334,0,none⟩) (Kd.V_mono HO_315000.out (fun k_ hk => (⟨hk,hk.1.2.2.2.1⟩ : _ ∧ k_ ≠ gb334))) (fun _ hk => hk.2) (.slice Ao83 y337.length co83)) (fun _ hk => hk.2) (.int .i64 (wrap64 (t333 + 1)))) (fun _ hk => ⟨hk.1.1.1,⟨hk.1.2,⟨hk.1.1.2.1,⟨hk.1.1.2.2.1,⟨hk.1.1.2.2.2.1,hk.1.1.2.2.2.2⟩⟩⟩⟩⟩)⟩
      have n1_ : Aside0 (Kd.R k71 71 ((w82.setCell ⟨gb334,0,none⟩ (.slice Ao83 y337.length co83)).setCell ⟨gb334,1,none⟩ (.int .i64 (wrap64 (t333 + 1)))) w.heap.size (fun k_ => (w.heap.size ≤ k_) ∧ k_ ≠ gb335) (.slice Ao83 y337.length co83) y337) := ⟨by (with_reducible repeat (first | apply Kd.R_alloc | apply Kd.R_drewN | apply Kd.R_drew)); exact Kd.R_mono (Kd.R_far (p:=⟨gb334,1,none⟩) (Kd.R_far (p:=⟨gb334,0,none⟩) (Kd.R_types HO339.out BK334.out (by decide)) (fun _ hk => hk.2) (.slice Ao83 y337.length co83)) (fun _ hk => hk.2) (.int .i64 (wrap64 (t333 + 1)))) (fun _ hk => ⟨hk.1.1,hk.1.2⟩)⟩
      have n2_ : Aside0 (((w82.setCell ⟨gb334,0,none⟩ (.slice Ao83 y337.length co83)).setCell ⟨gb334,1,none⟩ (.int .i64 (wrap64 (t333 + 1)))).heap[gb314]? = some (.cells #[.slice A0_0 l0_0.length c0_0,.int .i64 a0_1] 28 (0,0))) := ⟨kF BK314.out⟩
      have n3_ : Aside0 (((w82.setCell ⟨gb334,0,none⟩ (.slice Ao83 y337.length co83)).setCell ⟨gb334,1,none⟩ (.int .i64 (wrap64 (t333 + 1)))).heap[gb315]? = some (.cells #[.slice none 0 0,.int .i64 0] 28 (0,0))) := ⟨kF BK315.out⟩
      have n4_ : Aside0 (((w82.setCell ⟨gb334,0,none⟩ (.slice Ao83 y337.length co83)).setCell ⟨gb334,1,none⟩ (.int .i64 (wrap64 (t333 + 1)))).heap[gb334]? = some (.cells #[.slice Ao83 y337.length co83,.int .i64 (wrap64 (t333 + 1))] 28 (0,0))) := ⟨by (with_reducible repeat (first | refine blk_drewN ?_ _ | refine blk_drew ?_ | refine blk_alloc ?_ _)); refine blk_put (cs := #[.slice Ao83 y337.length co83,.int .i64 t333]) ?_ 1 _ rfl; (with_reducible repeat (first | refine blk_drewN ?_ _ | refine blk_drew ?_ | refine blk_alloc ?_ _)); refine blk_put (cs := #[.slice Ao69 t330.length co69,.int .i64 t333]) ?_ 0 _ rfl; (with_reducible repeat (first | refine blk_drewN ?_ _ | refine blk_drew ?_ | refine blk_alloc ?_ _)); exact BK334.out⟩
      have n5_ : Aside0 (((w82.setCell ⟨gb334,0,none⟩ (.slice Ao83 y337.length co83)).setCell ⟨gb334,1,none⟩ (.int .i64 (wrap64 (t333 + 1)))).heap[gb335]? = some (.cells #[.string a1,.int .i64 a0_1,.string a2] 71 (0,0))) := ⟨kF BK335.out⟩
      have n6_ : Aside0 (Below w.heap.size w ((w82.setCell ⟨gb334,0,none⟩ (.slice Ao83 y337.length co83)).setCell ⟨gb334,1,none⟩ (.int .i64 (wrap64 (t333 + 1))))) := ⟨bA⟩
      (try clear HO_315000)
      (try clear HO339)
      (try clear BK314)
      (try clear BK315)
      (try clear BK334)
      (try clear BK335)
      (try clear HB)
      generalize ((w82.setCell ⟨gb334,0,none⟩ (.slice Ao83 y337.length co83)).setCell ⟨gb334,1,none⟩ (.int .i64 (wrap64 (t333 + 1)))) = w85 at n0_ n1_ n2_ n3_ n4_ n5_ n6_ ⊢
      have HO_315000 := n0_
      have HO339 := n1_
      have BK314 := n2_
      have BK315 := n3_
      have BK334 := n4_
      have BK335 := n5_
      have HB := n6_
      clear n0_ n1_ n2_ n3_ n4_ n5_ n6_
      have n0_ := Aside0.mk (Kd.V_drew HO_315000.out)
      have n1_ := Aside0.mk (Kd.R_drew HO339.out)
      have n2_ := Aside0.mk (blk_drew BK314.out)
      have n3_ := Aside0.mk (blk_drew BK315.out)
      have n4_ := Aside0.mk (blk_drew BK334.out)
      have n5_ := Aside0.mk (blk_drew BK335.out)
      have n6_ := Aside0.mk (below_drew1 HB.out)
      clear HO_315000
      clear HO339
      clear BK314
      clear BK315
      clear BK334
      clear BK335
      clear HB
      have HO_315000 := n0_
      have HO339 := n1_
      have BK314 := n2_
      have BK315 := n3_
      have BK334 := n4_
      have BK335 := n5_
      have HB := n6_
      clear n0_ n1_ n2_ n3_ n4_ n5_ n6_
      refine start_ (n:=6) (S:=fun w' => w'.cell? ⟨gb334,0,none⟩ = some (.slice Ao83 y337.length co83) ∧ w'.cell? ⟨gb334,1,none⟩ = some (.int .i64 (wrap64 (t333 + 1))) ∧ w'.cell? ⟨gb314,0,none⟩ = some (.slice A0_0 l0_0.length c0_0) ∧ w'.cell? ⟨gb314,1,none⟩ = some (.int .i64 a0_1)) (ds := []) (bm 6 0) (by kernel_rfl) rfl rfl ⟨(blk_cell BK334.out 0).trans rfl,(blk_cell BK334.out 1).trans rfl,(blk_cell BK314.out 0).trans rfl,(blk_cell BK314.out 1).trans rfl⟩ (fun hHeld => ?_)
      generalize w85.drew = w86 at HO_315000 HO339 BK314 BK315 BK334 BK335 HB hHeld ⊢
      refine pure_ (i:=1) (N:=some 71) (v:=?_) (a':=?_) (bm 6 2) rfl rfl (by kernel_rfl) (fun _ _ _ h => h) (Or.inl ⟨by rfl,?_⟩) ?_ ?_
      rotate_left
      ·intro w'
       go_simp
       with_reducible rfl
      rotate_left
      ·simp only [Act.put,setIfInBounds_toArray,set_cons_zero,set_cons_succ,i64_w,i32_w]
       rfl
      refine take_ (i:=0) (N:=some 70) (v:=?_) (a':=?_) (bm 6 3) rfl rfl (by kernel_rfl) (fun _ _ _ h => h) (Or.inl ⟨by rfl,?_⟩) hHeld ?_ ?_
      rotate_left
      ·rintro w' ⟨s0,s1,s2,s3⟩
       go_simp
       with_reducible rfl
      rotate_left
      ·simp only [Act.put,setIfInBounds_toArray,set_cons_zero,set_cons_succ,i64_w,i32_w]
       rfl
      refine take_ (i:=2) (N:=some 72) (v:=?_) (a':=?_) (bm 6 7) rfl rfl (by kernel_rfl) (fun _ _ _ h => h) (Or.inl ⟨by rfl,?_⟩) hHeld ?_ ?_
      rotate_left
      ·rintro w' ⟨s0,s1,s2,s3⟩
       go_simp
       with_reducible rfl
      rotate_left
      ·simp only [Act.put,setIfInBounds_toArray,set_cons_zero,set_cons_succ,i64_w,i32_w]
       rfl
      refine one_ (i:=3) (N:=none) (bm 6 15) rfl rfl (by kernel_rfl) (by decide) (fun K hK => ?_)
      have hs87 : w86.cell? ⟨gb315,0,none⟩ = some (.slice none 0 0) := (blk_cell BK315.out 0).trans rfl
      have hfs87 := blk_frozen BK315.out 0
      have hns87_0 := NB314_315.out
      have hns87_2 := NB334_315.out
      have hns87_3 := NB335_315.out
      have hms87_0 := NB315_314.out
      have hms87_2 := NB315_334.out
      have hms87_3 := NB315_335.out
      have hs88 : w86.cell? ⟨gb315,1,none⟩ = some (.int .i64 0) := (blk_cell BK315.out 1).trans rfl
      have hfs88 := blk_frozen BK315.out 1
      have hns88_0 := NB314_315.out
      have hns88_2 := NB334_315.out
      have hns88_3 := NB335_315.out
      have hms88_0 := NB315_314.out
      have hms88_2 := NB315_334.out
      have hms88_3 := NB315_335.out
      refine skip_ (w1 := ?_) (by rfl) rfl ?_ ?_
      rotate_left
      ·go_simp
       rfl
      refine hK.out _ _ ⟨((cell_far (p:=⟨gb315,_,none⟩) NB334_315.out _).trans (((cell_far (p:=⟨gb315,_,none⟩) NB334_315.out _).trans (hHeld.1)))),((cell_far (p:=⟨gb315,_,none⟩) NB334_315.out _).trans (((cell_far (p:=⟨gb315,_,none⟩) NB334_315.out _).trans (hHeld.2.1)))),((cell_far (p:=⟨gb315,_,none⟩) NB314_315.out _).trans (((cell_far (p:=⟨gb315,_,none⟩) NB314_315.out _).trans (hHeld.2.2.1)))),((cell_far (p:=⟨gb315,_,none⟩) NB314_315.out _).trans (((cell_far (p:=⟨gb315,_,none⟩) NB314_315.out _).trans (hHeld.2.2.2))))⟩ (fun hHeld => ?_)
      clear hK K
      refine pure_ (i:=4) (N:=some 7) (v:=?_) (a':=?_) (bm 6 31) rfl rfl (by kernel_rfl) (fun _ _ _ h => h) (Or.inl ⟨by rfl,?_⟩) ?_ ?_
      rotate_left
      ·intro w'
       go_simp
       with_reducible rfl
      rotate_left
      ·simp only [Act.put,setIfInBounds_toArray,set_cons_zero,set_cons_succ,i64_w,i32_w]
       rfl
      refine pure_ (i:=5) (N:=some 8) (v:=?_) (a':=?_) (bm 6 63) rfl rfl (by kernel_rfl) (fun _ _ _ h => h) (Or.inl ⟨by rfl,?_⟩) ?_ ?_
      rotate_left
      ·intro w'
       go_simp
       with_reducible rfl
      rotate_left
      ·simp only [Act.put,setIfInBounds_toArray,set_cons_zero,set_cons_succ,i64_w,i32_w]
       rfl
      refine done_ (by kernel_rfl) ?_
      try go_wp2
      refine bodyPost_ret (results_ctt rfl _ _ gb315 28 #[.slice Ao83 y337.length co83,.int .i64 (wrap64 (t333 + 1))] (0,0) _ rfl (by (with_reducible repeat (first | refine blk_drewN ?_ _ | refine blk_drew ?_ | refine blk_alloc ?_ _)); refine blk_put (cs := #[.slice Ao83 y337.length co83,.int .i64 0]) ?_ 1 _ rfl; (with_reducible repeat (first | refine blk_drewN ?_ _ | refine blk_drew ?_ | refine blk_alloc ?_ _)); refine blk_put (cs := #[.slice none 0 0,.int .i64 0]) ?_ 0 _ rfl; (with_reducible repeat (first | refine blk_drewN ?_ _ | refine blk_drew ?_ | refine blk_alloc ?_ _)); exact BK315.out) Try.underlying28 rfl (by kernel_rfl)) rfl ?_
      exact ⟨_,by first | rfl | (simp only [i64_w,i32_w] <;> rfl) | (simp [errW_none,errW_some] <;> rfl) | (simp [*,errW_none,errW_some] <;> rfl),Kd.V_mono (Kd.R_V (by (with_reducible repeat (first | apply Kd.R_alloc | apply Kd.R_drewN | apply Kd.R_drew)); exact Kd.R_mono (Kd.R_far (p:=⟨gb315,1,none⟩) (Kd.R_far (p:=⟨gb315,0,none⟩) (Kd.R_types HO339.out BK315.out (by decide)) (fun _ hk => hk.2) (.slice Ao83 y337.length co83)) (fun _ hk => hk.2) (.int .i64 (wrap64 (t333 + 1)))) (fun _ hk => hk.1.1))) (fun k_ hk => by first | exact ⟨(.inr (hk.1)),hk.2⟩ | exact (.inr (hk))),bA⟩
     ·rw [if_neg c63] at H
      exact absurd H (by simp)
   ·rw [if_neg c31] at H
    have c31b0 : (x11_4 == 0) = false := beq_eq_false_iff_ne.mpr c31
    have c31b1 : (x11_4 != 0) = true := bne_iff_ne.mpr c31
    simp only [Option.some.injEq,Prod.mk.injEq] at H
    obtain ⟨rfl,rfl,rfl,rfl⟩ := H
    have hnb89 := NB314_315.out
    have hnc89 := NB315_314.out
    have hcz90_0 : wc.cell? ⟨gb314,0,none⟩ = some (.slice A0_0 l0_0.length c0_0) := (blk_cell BK314.out 0).trans rfl
    have hcz90_1 : wc.cell? ⟨gb314,1,none⟩ = some (.int .i64 a0_1) := (blk_cell BK314.out 1).trans rfl
    have hfz90_0 := blk_frozen BK314.out 0
    have hfz90_1 := blk_frozen BK314.out 1
    have hcz91_0 : wc.cell? ⟨gb315,0,none⟩ = some (.slice none 0 0) := (blk_cell BK315.out 0).trans rfl
    have hcz91_1 : wc.cell? ⟨gb315,1,none⟩ = some (.int .i64 0) := (blk_cell BK315.out 1).trans rfl
    have hfz91_0 := blk_frozen BK315.out 0
    have hfz91_1 := blk_frozen BK315.out 1
    go_wp2
    refine bodyPost_ret (results_ctt rfl _ _ gb315 28 #[.slice A0_0 l0_0.length c0_0,.int .i64 a0_1] (0,0) _ rfl (by (with_reducible repeat (first | refine blk_drewN ?_ _ | refine blk_drew ?_ | refine blk_alloc ?_ _)); refine blk_put (cs := #[.slice A0_0 l0_0.length c0_0,.int .i64 0]) ?_ 1 _ rfl; (with_reducible repeat (first | refine blk_drewN ?_ _ | refine blk_drew ?_ | refine blk_alloc ?_ _)); refine blk_put (cs := #[.slice none 0 0,.int .i64 0]) ?_ 0 _ rfl; (with_reducible repeat (first | refine blk_drewN ?_ _ | refine blk_drew ?_ | refine blk_alloc ?_ _)); exact BK315.out) Try.underlying28 rfl (by kernel_rfl)) rfl ?_
    exact ⟨_,by first | rfl | (simp only [i64_w,i32_w] <;> rfl) | (simp [errW_none,errW_some] <;> rfl) | (simp [*,errW_none,errW_some] <;> rfl),by (with_reducible repeat (first | apply Kd.V_alloc | apply Kd.V_drewN | apply Kd.V_drew)); exact Kd.V_mono (Kd.V_far (p:=⟨gb315,1,none⟩) (Kd.V_far (p:=⟨gb315,0,none⟩) (Kd.V_mono HO_315000.out (fun k_ hk => (⟨hk,hk.2.2⟩ : _ ∧ k_ ≠ gb315))) (fun _ hk => hk.2) (.slice A0_0 l0_0.length c0_0)) (fun _ hk => hk.2) (.int .i64 a0_1)) (fun _ hk => hk.1.1),bA⟩

end Go.Proofs.Ytbodkbaniebfaaa.XFnExactPutVersion
