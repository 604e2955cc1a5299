-- Printed by this session's own program wip/tools/xprint.py, which widens the kit's print. Not trusted: Lean checks it.
import Derived.Test.YtbodkbaniebfaaaXFnExactPutAbsentx0
import Derived.Test.YtbodkbaniebfaaaXFnExactPutAbsentx8
import Derived.Test.YtbodkbaniebfaaaXFnExactPutAbsentx10
namespace Go.Proofs.Ytbodkbaniebfaaa.XFnExactPutAbsent
open List (setIfInBounds_toArray set_cons_zero set_cons_succ)
open Go.RowKit Go.Proofs.YtbodkbaniebfaaaW.PrintWords Go.Proofs.YtbodkbaniebfaaaW.PrintLast Go.Proofs.YtbodkbaniebfaaaW.PrintMore
attribute [local go_sem] max2_int min2_int max_two min_two max_three min_three max_four min_four   -- for this text's walks alone
set_option linter.unusedVariables false
set_option linter.unusedSimpArgs false

/-! ### impl_Store_put: function 50 -/
def impl_Store_put.j0 : Nat → ByteArray → ByteArray → Int → Bool → Int → List (S71) → Int → Option ((List (S71)) × Int × Int × Int)
 | 0,_,_,_,_,_,_,_ => none
 | k + 1,x1,x2,x9,x10,x11,x302000,x302001 => if x11 = 0 then ((impl_Store_copied.f x302000 x302001).bind fun bt317 => (if x10 = true then (if 0 ≤ x9 then (if x9 < (bt317.1.length : Int) then (some ((bt317.1.set (x9 : Int).toNat (⟨x1,x302001,x2⟩ : S71)),wrap64 (bt317.2 + 1),x302001,0)) else (none)) else (none)) else (if bt317.1.length < 3518437208000 ∧ 0 ≤ x9 ∧ x9 ≤ (bt317.1.length : Int) then (some ((bt317.1.take (x9 : Int).toNat ++ (⟨x1,x302001,x2⟩ : S71) :: bt317.1.drop (x9 : Int).toNat),wrap64 (bt317.2 + 1),x302001,0)) else (none)))) else (some (x302000,x302001,0,x11))
def impl_Store_put.f (k : Nat) (l0_0 : List (S71)) (a0_1 : Int) (a1 : ByteArray) (a2 : ByteArray) : Option ((List (S71)) × Int × Int × Int) := (impl_Store_find.f l0_0 a0_1 a1).bind fun bt303 => (if bt303.2 = true then ((impl_first.f k (([anyB (decide ((a2.size : Int) > 600)),anyI 8,anyB (a0_1 == 1000000000),anyI 7] : List AnyV))).bind fun t308 => (impl_Store_put.j0 k a1 a2 bt303.1 bt303.2 t308 l0_0 a0_1)) else (if (l0_0.length : Int) = 300 then ((impl_first.f k (([anyB (decide ((a2.size : Int) > 600)),anyI 8,anyB true,anyI 7] : List AnyV))).bind fun t312 => (impl_Store_put.j0 k a1 a2 bt303.1 bt303.2 t312 l0_0 a0_1)) else ((impl_first.f k (([anyB (decide ((a2.size : Int) > 600)),anyI 8,anyB (a0_1 == 1000000000),anyI 7] : List AnyV))).bind fun t316 => (impl_Store_put.j0 k a1 a2 bt303.1 bt303.2 t316 l0_0 a0_1))))
theorem impl_Store_put.mono_l : ∀ k,(∀ y0 y1 y2 y3 y4 y5 y6,LeO (impl_Store_put.j0 k y0 y1 y2 y3 y4 y5 y6) (impl_Store_put.j0 (k + 1) y0 y1 y2 y3 y4 y5 y6))
 | 0 => fun _ _ _ _ _ _ _ r h => by simp [impl_Store_put.j0] at h
 | k + 1 => by
  have ih0 := impl_Store_put.mono_l k
  ·intro y0 y1 y2 y3 y4 y5 y6
   unfold impl_Store_put.j0
   repeat' first
   | (with_reducible exact ih0 _ _ _ _ _ _ _)
   | (with_reducible exact impl_first.mono _ _)
   | (with_reducible exact LeO.refl _)
   | (with_reducible exact LeO.none _)
   | (with_reducible refine LeO.ite ?_ ?_)
   | (with_reducible refine LeO.bind ?_ (fun _ => ?_))
   | exact ih0 _ _ _ _ _ _ _
   | exact impl_first.mono _ _
   | exact LeO.none _
   | refine LeO.ite ?_ ?_
   | refine LeO.bind ?_ (fun _ => ?_)
theorem impl_Store_put.mono : ∀ a0 a1 a2 a3 k,LeO (impl_Store_put.f k a0 a1 a2 a3) (impl_Store_put.f (k + 1) a0 a1 a2 a3) := by
 intro a0 a1 a2 a3 k
 have ih0 := impl_Store_put.mono_l k
 unfold impl_Store_put.f
 repeat' first
   | (with_reducible exact ih0 _ _ _ _ _ _ _)
   | (with_reducible exact impl_first.mono _ _)
   | (with_reducible exact LeO.refl _)
   | (with_reducible exact LeO.none _)
   | (with_reducible refine LeO.ite ?_ ?_)
   | (with_reducible refine LeO.bind ?_ (fun _ => ?_))
   | exact ih0 _ _ _ _ _ _ _
   | exact impl_first.mono _ _
   | exact LeO.none _
   | refine LeO.ite ?_ ?_
   | refine LeO.bind ?_ (fun _ => ?_)
def impl_Store_put.T5 : Bool × List (List Nat × List Nat) := (true,[([],[]),([0],[0]),([],[]),([],[]),([3],[3]),([],[]),([2,4,5],[2,4,5]),([],[]),([],[]),([7,1,1,0,1,7,8],[1,7]),([8,6,9,0,1,2,3,4,5,6,7,8,9],[6,8])])
def impl_Store_put.B5 : List Nat := [0,1,0,0,8,0,60,0,0,387,1023]
theorem impl_Store_put.tab5 : rtab .any (opsOf Try.f50 5) = impl_Store_put.T5 := by kernel_rfl
theorem impl_Store_put.bits5 : waitsOk impl_Store_put.T5.2 impl_Store_put.B5 = true := by kernel_rfl
set_option maxHeartbeats 8000000 in
set_option maxRecDepth 100000 in
theorem impl_Store_put.calls (k : Nat) (P0_0_ : Nat → Prop) (A0_0 : Option Addr) (c0_0 : Nat) (l0_0 : List (S71)) (a0_1 : Int) (a1 : ByteArray) (a2 : ByteArray) (r1 : List (S71)) (r2 : Int) (r3 : Int) (r4 : Int) (w : World) (hs0_0 : Kd.V k71 71 w w.heap.size (fun k_ => P0_0_ k_) (.slice A0_0 l0_0.length c0_0) l0_0) (h : impl_Store_put.f k l0_0 a0_1 a1 a2 = some (r1,r2,r3,r4)) :
  Calls Try.prog 50 #[.agg #[.slice A0_0 l0_0.length c0_0,.int .i64 a0_1],.string a1,.string a2] w fun e w' => ∃ v0_ : Value,e = .returned (.tuple #[.agg #[v0_,.int .i64 r2],.int .i64 r3,.int .i64 r4]) ∧ Kd.V k71 71 w' w.heap.size (fun k_ => (P0_0_ k_ ∨ w.heap.size ≤ k_)) v0_ r1 ∧ Below w.heap.size w w' := by
 have hu28 := Try.underlying28
 have hu71 := Try.underlying71
 have hua20 := Try.underlying20
 have HO0_0 := Aside0.mk (show Kd.V k71 71 w w.heap.size (fun k_ => (P0_0_ k_ ∨ w.heap.size ≤ k_)) (.slice A0_0 l0_0.length c0_0) l0_0 from Kd.V_mono hs0_0 (fun k_ hk => .inl hk))
 have HB := Aside0.mk (Below.refl w.heap.size w)
 have H : ((impl_Store_find.f l0_0 a0_1 a1).bind fun bt303 => (if bt303.2 = true then ((impl_first.f k (([anyB (decide ((a2.size : Int) > 600)),anyI 8,anyB (a0_1 == 1000000000),anyI 7] : List AnyV))).bind fun t308 => (impl_Store_put.j0 k a1 a2 bt303.1 bt303.2 t308 l0_0 a0_1)) else (if (l0_0.length : Int) = 300 then ((impl_first.f k (([anyB (decide ((a2.size : Int) > 600)),anyI 8,anyB true,anyI 7] : List AnyV))).bind fun t312 => (impl_Store_put.j0 k a1 a2 bt303.1 bt303.2 t312 l0_0 a0_1)) else ((impl_first.f k (([anyB (decide ((a2.size : Int) > 600)),anyI 8,anyB (a0_1 == 1000000000),anyI 7] : List AnyV))).bind fun t316 => (impl_Store_put.j0 k a1 a2 bt303.1 bt303.2 t316 l0_0 a0_1))))) = some (r1,r2,r3,r4) := h
 clear h
 replace H := Option.bind_eq_some_iff.mp H
 obtain ⟨⟨t303,t304⟩,A40,H⟩ := H
 try dsimp only at H
 have A4 := Aside0.mk A40
 clear A40
 have HC5 := Aside0.mk H
 clear H
 go_enter Try.func50,Try.ntmps50
 go_upto_region 2 with (first | ((with_reducible refine gate_dst (N:=3) rfl ?_); (try (refine gate_guard (by rfl) ?_; dsimp only)); refine box_event ?hg (N:=3) ?hd (cs := #[.slice A0_0 l0_0.length c0_0,.int .i64 a0_1]) (t:=28) ?hr ?_; (case hd => rfl); (case hg => rfl); (case hr => first | (go_simp; done) | (go_simp; rfl)); intro gb301 hg w6 hbox hb; have n0_ := Aside0.mk (Kd.V_below (Kd.V_elderB (by (with_reducible repeat (first | apply Kd.V_alloc | apply Kd.V_drewN | apply Kd.V_drew)); exact HO0_0.out) gb301 (Nat.le_of_eq hg.symm)) hb); have n1_ := Aside0.mk (below_step bA hb); have n2_ := Aside0.mk (hbox); have n3_ := Aside0.mk ((by rw [hg]; exact (below_size bA) : w.heap.size ≤ gb301)); have n4_ := Aside0.mk ((by rw [hg]; exact (below_size bA) : w.heap.size ≤ gb301)); clear HO0_0; clear HB; have HO0_0 := n0_; have HB := n1_; have BK301 := n2_; have GW301 := n3_; have GE301 := n4_; clear n0_ n1_ n2_ n3_ n4_; clear hb hbox hg) | ((with_reducible refine gate_dst (N:=6) rfl ?_); (try (refine gate_guard (by rfl) ?_; dsimp only)); refine box_event ?hg (N:=6) ?hd (cs := #[.slice none 0 0,.int .i64 0]) (t:=28) ?hr ?_; (case hd => rfl); (case hg => rfl); (case hr => first | (go_simp; done) | (go_simp; rfl)); intro gb302 hg w7 hbox hb; have n0_ := Aside0.mk (Kd.V_below (Kd.V_elderB (by (with_reducible repeat (first | apply Kd.V_alloc | apply Kd.V_drewN | apply Kd.V_drew)); exact HO0_0.out) gb302 (Nat.le_of_eq hg.symm)) hb); have n1_ := Aside0.mk (blk_below (g:=gb301) (o:=.cells #[.slice A0_0 l0_0.length c0_0,.int .i64 a0_1] 28 (0,0)) (kA BK301.out) hb); have n2_ := Aside0.mk (below_step bA hb); have n3_ := Aside0.mk (hbox); have n4_ := Aside0.mk ((by rw [hg]; exact (below_size bA) : w.heap.size ≤ gb302)); have n5_ := Aside0.mk ((by rw [hg]; exact (below_size bA) : w.heap.size ≤ gb302)); have n6_ := Aside0.mk ((by rw [hg]; exact Nat.ne_of_lt (blk_lt (g:=gb301) (o:=.cells #[.slice A0_0 l0_0.length c0_0,.int .i64 a0_1] 28 (0,0)) (kA BK301.out)) : gb301 ≠ gb302)); have n7_ := Aside0.mk ((by rw [hg]; exact Nat.ne_of_gt (blk_lt (g:=gb301) (o:=.cells #[.slice A0_0 l0_0.length c0_0,.int .i64 a0_1] 28 (0,0)) (kA BK301.out)) : gb302 ≠ gb301)); clear HO0_0; clear BK301; clear HB; have HO0_0 := n0_; have BK301 := n1_; have HB := n2_; have BK302 := n3_; have GW302 := n4_; have GE302 := n5_; have NB301_302 := n6_; have NB302_301 := n7_; clear n0_ n1_ n2_ n3_ n4_ n5_ n6_ n7_; clear hb hbox hg; have hnb8 := NB301_302.out; have hnc8 := NB302_301.out; have hcz9_0 : w7.cell? ⟨gb301,0,none⟩ = some (.slice A0_0 l0_0.length c0_0) := (blk_cell BK301.out 0).trans rfl; have hcz9_1 : w7.cell? ⟨gb301,1,none⟩ = some (.int .i64 a0_1) := (blk_cell BK301.out 1).trans rfl; have hfz9_0 := blk_frozen BK301.out 0; have hfz9_1 := blk_frozen BK301.out 1) | ((with_reducible refine gate_callee (f:=58) rfl ?_); refine goesL_ (some 17) rfl rfl Try.func58 (by kernel_rfl) rfl #[.agg #[.slice A0_0 l0_0.length c0_0,.int .i64 a0_1],.string a1] rfl mA ?_; (with_reducible refine (impl_Store_find.calls _ _ l0_0 a0_1 a1 t303 t304 _ ?side1 ?side2 A4.out).mono ?_); (case side1 => repeat (first | exact (Kd.V_reads' HO0_0.out).2.2 | (with_reducible refine Kd.C_alloc ?_ _) | (with_reducible refine Kd.C_drewN ?_ _) | (with_reducible refine Kd.C_drew ?_))); (case side2 => exact (Kd.V_reads' HO0_0.out).2.1); rintro e w10 ⟨rfl,hb⟩; refine ⟨_,rfl,?_⟩; have n0_ := Aside0.mk (Kd.V_below (by (with_reducible repeat (first | apply Kd.V_alloc | apply Kd.V_drewN | apply Kd.V_drew)); exact HO0_0.out) hb); have n1_ := Aside0.mk (blk_below (g:=gb301) (o:=.cells #[.slice A0_0 l0_0.length c0_0,.int .i64 a0_1] 28 (0,0)) (kA BK301.out) hb); have n2_ := Aside0.mk (blk_below (g:=gb302) (o:=.cells #[.slice none 0 0,.int .i64 0] 28 (0,0)) (kA BK302.out) hb); have n3_ := Aside0.mk (below_step bA hb); clear HO0_0; clear BK301; clear BK302; clear HB; have HO0_0 := n0_; have BK301 := n1_; have BK302 := n2_; have HB := n3_; clear n0_ n1_ n2_ n3_; (try clear hb); (try clear hb2); (try clear hk); (try clear hi)))
 (try simp only [Act.put,setIfInBounds_toArray,set_cons_zero,set_cons_succ])
 go_cut [11] (fun v11 wc => ∃ (kq : Nat) (x11_4 : Int),v11 = .int .i64 x11_4 ∧ Aside0 (impl_Store_put.j0 kq a1 a2 t303 t304 x11_4 l0_0 a0_1 = some (r1,r2,r3,r4)) ∧ Aside0 (kq ≤ k) ∧ Aside0 (Kd.V k71 71 wc w.heap.size (fun k_ => (P0_0_ k_ ∨ w.heap.size ≤ k_) ∧ k_ ≠ gb301 ∧ k_ ≠ gb302) (.slice A0_0 l0_0.length c0_0) l0_0) ∧ Aside0 (wc.heap[gb301]? = some (.cells #[(.slice A0_0 l0_0.length c0_0),.int .i64 a0_1] 28 (0,0))) ∧ Aside0 (wc.heap[gb302]? = some (.cells #[(.slice none 0 0),.int .i64 0] 28 (0,0))) ∧ Aside0 (Below w.heap.size w wc))
 case first =>
  have H := HC5.out
  clear HC5
  by_cases c11 : t304 = true
  ·subst c11
   rw [if_pos rfl] at H
   obtain ⟨y305,hy305⟩ : ∃ y_ : List AnyV,y_ = (([anyB (decide ((a2.size : Int) > 600)),anyI 8,anyB (a0_1 == 1000000000),anyI 7] : List AnyV)) := ⟨_,rfl⟩
   replace H : ((impl_first.f k y305).bind fun t308 => (impl_Store_put.j0 k a1 a2 t303 true t308 l0_0 a0_1)) = some (r1,r2,r3,r4) := by first | (rw [hy305]; with_reducible exact H) | (have H2_ := (Option.bind_some _ _).symm.trans H; rw [hy305]; with_reducible exact H2_) | (have H2_ := (Option.bind_some _ _).symm.trans H; with_reducible exact H2_) | with_reducible exact H | (rw [hy305]; exact H) | exact H
   have Ny305 := Aside0.mk hy305
   clear hy305
   replace H := Option.bind_eq_some_iff.mp H
   obtain ⟨t308,A120,H⟩ := H
   try dsimp only at H
   have A12 := Aside0.mk A120
   clear A120
   have H' := Aside0.mk H
   clear H
   have hnb13 := NB301_302.out
   have hnc13 := NB302_301.out
   have hcz14_0 : w10.cell? ⟨gb301,0,none⟩ = some (.slice A0_0 l0_0.length c0_0) := (blk_cell BK301.out 0).trans rfl
   have hcz14_1 : w10.cell? ⟨gb301,1,none⟩ = some (.int .i64 a0_1) := (blk_cell BK301.out 1).trans rfl
   have hfz14_0 := blk_frozen BK301.out 0
   have hfz14_1 := blk_frozen BK301.out 1
   go_wp2_with (first | ((with_reducible refine gate_dst (N:=40) rfl ?_); (try (refine gate_guard (by rfl) ?_; dsimp only)); refine Kd.R_lit kAny _ 20 ?hg (N:=40) ?hd (xs := ([anyB (decide ((a2.size : Int) > 600)),anyI 8,anyB (a0_1 == 1000000000),anyI 7] : List AnyV)) (inner := [.iface 4 (.bool (decide ((a2.size : Int) > 600))),.iface 3 (.int .i64 8),.iface 4 (.bool (a0_1 == 1000000000)),.iface 3 (.int .i64 7)]) (ok := fun _ => True) (okp := fun _ => True) ?hr ?hp (fun _ hk => hk) trivial (Below.refl _ _) (Nat.le_refl _) (by simp) ?_; (case hd => rfl); (case hg => rfl); (case hr => first | (go_simp; done) | (go_simp; rfl)); (case hp => exact (Reps.one (show Kd.M kAny _ _ _ (anyB (decide ((a2.size : Int) > 600))) [.iface 4 (.bool (decide ((a2.size : Int) > 600)))] from rfl) (Reps.one (show Kd.M kAny _ _ _ (anyI 8) [.iface 3 (.int .i64 8)] from rfl) (Reps.one (show Kd.M kAny _ _ _ (anyB (a0_1 == 1000000000)) [.iface 4 (.bool (a0_1 == 1000000000))] from rfl) (Reps.one (show Kd.M kAny _ _ _ (anyI 7) [.iface 3 (.int .i64 7)] from rfl) (Reps.none _ _)))))); intro v306 w15 ho16 hb hg_ hnew_; clear hg_ hnew_; (first | rw [← Ny305.out] at ho16 | (simp only [Int.reduceToNat] at ho16; rw [← Ny305.out] at ho16)); have n0_ := Aside0.mk (Kd.V_elder' (by (with_reducible repeat (first | apply Kd.V_alloc | apply Kd.V_drewN | apply Kd.V_drew)); exact HO0_0.out) (Kd.R_base ho16) hb); have n1_ := Aside0.mk (Kd.R_lower (Kd.R_newM (M:=fun k_ => (w.heap.size ≤ k_)) ho16 (below_size bA) (fun k_ h_ => h_)) (below_size bA)); have n2_ := Aside0.mk (blk_below (g:=gb301) (o:=.cells #[.slice A0_0 l0_0.length c0_0,.int .i64 a0_1] 28 (0,0)) (kA BK301.out) hb); have n3_ := Aside0.mk (blk_below (g:=gb302) (o:=.cells #[.slice none 0 0,.int .i64 0] 28 (0,0)) (kA BK302.out) hb); have n4_ := Aside0.mk (below_step bA hb); clear HO0_0; clear BK301; clear BK302; clear HB; have HO0_0 := n0_; have HO307 := n1_; have BK301 := n2_; have BK302 := n3_; have HB := n4_; clear n0_ n1_ n2_ n3_ n4_; clear hb ho16; obtain ⟨Ao17,co17,eo17⟩ := Kd.R_slice HO307.out; subst eo17) | ((with_reducible refine gate_callee (f:=28) rfl ?_); refine goesL_ (some 41) rfl rfl Try.func28 (by kernel_rfl) rfl #[.slice Ao17 y305.length co17] rfl mA ?_; (with_reducible refine (impl_first.calls k _ _ y305 t308 _ ?side1 ?side2 A12.out).mono ?_); (case side1 => repeat (first | exact (Kd.R_reads' HO307.out).2.2 | (with_reducible refine Kd.C_alloc ?_ _) | (with_reducible refine Kd.C_drewN ?_ _) | (with_reducible refine Kd.C_drew ?_))); (case side2 => exact (Kd.R_reads' HO307.out).2.1); rintro e w' ⟨rfl,⟨nd,rfl⟩⟩; refine ⟨_,rfl,?_⟩))
   go_meet
   case rel => exact ⟨_,(t308),(by first | rfl | (simp; done) | (simp [*]; done)),H',⟨by first | omega | exact Nat.le_refl _⟩,⟨by (with_reducible repeat (first | apply Kd.V_alloc | apply Kd.V_drewN | apply Kd.V_drew)); exact Kd.V_mono HO0_0.out (fun _ hk => ⟨hk.1.1.1,⟨hk.1.1.2,hk.1.2⟩⟩)⟩,⟨kA BK301.out⟩,⟨kA BK302.out⟩,⟨bA⟩⟩
  ·replace c11 := Bool.eq_false_iff.mpr c11
   subst c11
   rw [if_neg (show ¬ (false = true) by decide)] at H
   by_cases c18 : (l0_0.length : Int) = 300
   ·rw [if_pos c18] at H
    have c18b0 : ((l0_0.length : Int) == 300) = true := beq_iff_eq.mpr c18
    have c18b1 : ((l0_0.length : Int) != 300) = false := bne_eq_false_iff_eq.mpr c18
    clear c18
    (first | rw [c18b0] | (simp only [i64_w,i32_w]; rw [c18b0]) | skip)
    obtain ⟨y309,hy309⟩ : ∃ y_ : List AnyV,y_ = (([anyB (decide ((a2.size : Int) > 600)),anyI 8,anyB true,anyI 7] : List AnyV)) := ⟨_,rfl⟩
    replace H : ((impl_first.f k y309).bind fun t312 => (impl_Store_put.j0 k a1 a2 t303 false t312 l0_0 a0_1)) = some (r1,r2,r3,r4) := by first | (rw [hy309]; with_reducible exact H) | (have H2_ := (Option.bind_some _ _).symm.trans H; rw [hy309]; with_reducible exact H2_) | (have H2_ := (Option.bind_some _ _).symm.trans H; with_reducible exact H2_) | with_reducible exact H | (rw [hy309]; exact H) | exact H
    have Ny309 := Aside0.mk hy309
    clear hy309
    replace H := Option.bind_eq_some_iff.mp H
    obtain ⟨t312,A190,H⟩ := H
    try dsimp only at H
    have A19 := Aside0.mk A190
    clear A190
    have H' := Aside0.mk H
    clear H
    have hnb20 := NB301_302.out
    have hnc20 := NB302_301.out
    have hcz21_0 : w10.cell? ⟨gb301,0,none⟩ = some (.slice A0_0 l0_0.length c0_0) := (blk_cell BK301.out 0).trans rfl
    have hcz21_1 : w10.cell? ⟨gb301,1,none⟩ = some (.int .i64 a0_1) := (blk_cell BK301.out 1).trans rfl
    have hfz21_0 := blk_frozen BK301.out 0
    have hfz21_1 := blk_frozen BK301.out 1
    go_wp2_with (first | ((with_reducible refine gate_dst (N:=40) rfl ?_); (try (refine gate_guard (by rfl) ?_; dsimp only)); refine Kd.R_lit kAny _ 20 ?hg (N:=40) ?hd (xs := ([anyB (decide ((a2.size : Int) > 600)),anyI 8,anyB true,anyI 7] : List AnyV)) (inner := [.iface 4 (.bool (decide ((a2.size : Int) > 600))),.iface 3 (.int .i64 8),.iface 4 (.bool true),.iface 3 (.int .i64 7)]) (ok := fun _ => True) (okp := fun _ => True) ?hr ?hp (fun _ hk => hk) trivial (Below.refl _ _) (Nat.le_refl _) (by simp) ?_; (case hd => rfl); (case hg => rfl); (case hr => first | (go_simp; done) | (go_simp; rfl)); (case hp => exact (Reps.one (show Kd.M kAny _ _ _ (anyB (decide ((a2.size : Int) > 600))) [.iface 4 (.bool (decide ((a2.size : Int) > 600)))] from rfl) (Reps.one (show Kd.M kAny _ _ _ (anyI 8) [.iface 3 (.int .i64 8)] from rfl) (Reps.one (show Kd.M kAny _ _ _ (anyB true) [.iface 4 (.bool true)] from rfl) (Reps.one (show Kd.M kAny _ _ _ (anyI 7) [.iface 3 (.int .i64 7)] from rfl) (Reps.none _ _)))))); intro v310 w22 ho23 hb hg_ hnew_; clear hg_ hnew_; (first | rw [← Ny309.out] at ho23 | (simp only [Int.reduceToNat] at ho23; rw [← Ny309.out] at ho23)); have n0_ := Aside0.mk (Kd.V_elder' (by (with_reducible repeat (first | apply Kd.V_alloc | apply Kd.V_drewN | apply Kd.V_drew)); exact HO0_0.out) (Kd.R_base ho23) hb); have n1_ := Aside0.mk (Kd.R_lower (Kd.R_newM (M:=fun k_ => (w.heap.size ≤ k_)) ho23 (below_size bA) (fun k_ h_ => h_)) (below_size bA)); have n2_ := Aside0.mk (blk_below (g:=gb301) (o:=.cells #[.slice A0_0 l0_0.length c0_0,.int .i64 a0_1] 28 (0,0)) (kA BK301.out) hb); have n3_ := Aside0.mk (blk_below (g:=gb302) (o:=.cells #[.slice none 0 0,.int .i64 0] 28 (0,0)) (kA BK302.out) hb); have n4_ := Aside0.mk (below_step bA hb); clear HO0_0; clear BK301; clear BK302; clear HB; have HO0_0 := n0_; have HO311 := n1_; have BK301 := n2_; have BK302 := n3_; have HB := n4_; clear n0_ n1_ n2_ n3_ n4_; clear hb ho23; obtain ⟨Ao24,co24,eo24⟩ := Kd.R_slice HO311.out; subst eo24) | ((with_reducible refine gate_callee (f:=28) rfl ?_); refine goesL_ (some 41) rfl rfl Try.func28 (by kernel_rfl) rfl #[.slice Ao24 y309.length co24] rfl mA ?_; (with_reducible refine (impl_first.calls k _ _ y309 t312 _ ?side1 ?side2 A19.out).mono ?_); (case side1 => repeat (first | exact (Kd.R_reads' HO311.out).2.2 | (with_reducible refine Kd.C_alloc ?_ _) | (with_reducible refine Kd.C_drewN ?_ _) | (with_reducible refine Kd.C_drew ?_))); (case side2 => exact (Kd.R_reads' HO311.out).2.1); rintro e w' ⟨rfl,⟨nd,rfl⟩⟩; refine ⟨_,rfl,?_⟩))
    go_meet
    case rel => exact ⟨_,(t312),(by first | rfl | (simp; done) | (simp [*]; done)),H',⟨by first | omega | exact Nat.le_refl _⟩,⟨by (with_reducible repeat (first | apply Kd.V_alloc | apply Kd.V_drewN | apply Kd.V_drew)); exact Kd.V_mono HO0_0.out (fun _ hk => ⟨hk.1.1.1,⟨hk.1.1.2,hk.1.2⟩⟩)⟩,⟨kA BK301.out⟩,⟨kA BK302.out⟩,⟨bA⟩⟩
   ·rw [if_neg c18] at H
    have c18b0 : ((l0_0.length : Int) == 300) = false := beq_eq_false_iff_ne.mpr c18
    have c18b1 : ((l0_0.length : Int) != 300) = true := bne_iff_ne.mpr c18
    (first | rw [c18b0] | (simp only [i64_w,i32_w]; rw [c18b0]) | skip)
    obtain ⟨y313,hy313⟩ : ∃ y_ : List AnyV,y_ = (([anyB (decide ((a2.size : Int) > 600)),anyI 8,anyB (a0_1 == 1000000000),anyI 7] : List AnyV)) := ⟨_,rfl⟩
    replace H : ((impl_first.f k y313).bind fun t316 => (impl_Store_put.j0 k a1 a2 t303 false t316 l0_0 a0_1)) = some (r1,r2,r3,r4) := by first | (rw [hy313]; with_reducible exact H) | (have H2_ := (Option.bind_some _ _).symm.trans H; rw [hy313]; with_reducible exact H2_) | (have H2_ := (Option.bind_some _ _).symm.trans H; with_reducible exact H2_) | with_reducible exact H | (rw [hy313]; exact H) | exact H
    have Ny313 := Aside0.mk hy313
    clear hy313
    replace H := Option.bind_eq_some_iff.mp H
    obtain ⟨t316,A250,H⟩ := H
    try dsimp only at H
    have A25 := Aside0.mk A250
    clear A250
    have H' := Aside0.mk H
    clear H
    have hnb26 := NB301_302.out
    have hnc26 := NB302_301.out
    have hcz27_0 : w10.cell? ⟨gb301,0,none⟩ = some (.slice A0_0 l0_0.length c0_0) := (blk_cell BK301.out 0).trans rfl
    have hcz27_1 : w10.cell? ⟨gb301,1,none⟩ = some (.int .i64 a0_1) := (blk_cell BK301.out 1).trans rfl
    have hfz27_0 := blk_frozen BK301.out 0
    have hfz27_1 := blk_frozen BK301.out 1
    go_wp2_with (first | ((with_reducible refine gate_dst (N:=40) rfl ?_); (try (refine gate_guard (by rfl) ?_; dsimp only)); refine Kd.R_lit kAny _ 20 ?hg (N:=40) ?hd (xs := ([anyB (decide ((a2.size : Int) > 600)),anyI 8,anyB (a0_1 == 1000000000),anyI 7] : List AnyV)) (inner := [.iface 4 (.bool (decide ((a2.size : Int) > 600))),.iface 3 (.int .i64 8),.iface 4 (.bool (a0_1 == 1000000000)),.iface 3 (.int .i64 7)]) (ok := fun _ => True) (okp := fun _ => True) ?hr ?hp (fun _ hk => hk) trivial (Below.refl _ _) (Nat.le_refl _) (by simp) ?_; (case hd => rfl); (case hg => rfl); (case hr => first | (go_simp; done) | (go_simp; rfl)); (case hp => exact (Reps.one (show Kd.M kAny _ _ _ (anyB (decide ((a2.size : Int) > 600))) [.iface 4 (.bool (decide ((a2.size : Int) > 600)))] from rfl) (Reps.one (show Kd.M kAny _ _ _ (anyI 8) [.iface 3 (.int .i64 8)] from rfl) (Reps.one (show Kd.M kAny _ _ _ (anyB (a0_1 == 1000000000)) [.iface 4 (.bool (a0_1 == 1000000000))] from rfl) (Reps.one (show Kd.M kAny _ _ _ (anyI 7) [.iface 3 (.int .i64 7)] from rfl) (Reps.none _ _)))))); intro v314 w28 ho29 hb hg_ hnew_; clear hg_ hnew_; (first | rw [← Ny313.out] at ho29 | (simp only [Int.reduceToNat] at ho29; rw [← Ny313.out] at ho29)); have n0_ := Aside0.mk (Kd.V_elder' (by (with_reducible repeat (first | apply Kd.V_alloc | apply Kd.V_drewN | apply Kd.V_drew)); exact HO0_0.out) (Kd.R_base ho29) hb); have n1_ := Aside0.mk (Kd.R_lower (Kd.R_newM (M:=fun k_ => (w.heap.size ≤ k_)) ho29 (below_size bA) (fun k_ h_ => h_)) (below_size bA)); have n2_ := Aside0.mk (blk_below (g:=gb301) (o:=.cells #[.slice A0_0 l0_0.length c0_0,.int .i64 a0_1] 28 (0,0)) (kA BK301.out) hb); have n3_ := Aside0.mk (blk_below (g:=gb302) (o:=.cells #[.slice none 0 0,.int .i64 0] 28 (0,0)) (kA BK302.out) hb); have n4_ := Aside0.mk (below_step bA hb); clear HO0_0; clear BK301; clear BK302; clear HB; have HO0_0 := n0_; have HO315 := n1_; have BK301 := n2_; have BK302 := n3_; have HB := n4_; clear n0_ n1_ n2_ n3_ n4_; clear hb ho29; obtain ⟨Ao30,co30,eo30⟩ := Kd.R_slice HO315.out; subst eo30) | ((with_reducible refine gate_callee (f:=28) rfl ?_); refine goesL_ (some 41) rfl rfl Try.func28 (by kernel_rfl) rfl #[.slice Ao30 y313.length co30] rfl mA ?_; (with_reducible refine (impl_first.calls k _ _ y313 t316 _ ?side1 ?side2 A25.out).mono ?_); (case side1 => repeat (first | exact (Kd.R_reads' HO315.out).2.2 | (with_reducible refine Kd.C_alloc ?_ _) | (with_reducible refine Kd.C_drewN ?_ _) | (with_reducible refine Kd.C_drew ?_))); (case side2 => exact (Kd.R_reads' HO315.out).2.1); rintro e w' ⟨rfl,⟨nd,rfl⟩⟩; refine ⟨_,rfl,?_⟩))
    go_meet
    case rel => exact ⟨_,(t316),(by first | rfl | (simp; done) | (simp [*]; done)),H',⟨by first | omega | exact Nat.le_refl _⟩,⟨by (with_reducible repeat (first | apply Kd.V_alloc | apply Kd.V_drewN | apply Kd.V_drew)); exact Kd.V_mono HO0_0.out (fun _ hk => ⟨hk.1.1.1,⟨hk.1.1.2,hk.1.2⟩⟩)⟩,⟨kA BK301.out⟩,⟨kA BK302.out⟩,⟨bA⟩⟩
 case rest =>
  clear HC5
  try clear c1
  try clear c2
  try clear p2
  try clear c5
  try clear c8
  try clear c11
  try clear c13
  try clear c18
  try clear c18b0
  try clear c18b1
  try clear c20
  try clear c26
  try clear c28
  try clear hcz14_0
  try clear hcz14_1
  try clear hcz21_0
  try clear hcz21_1
  try clear hcz27_0
  try clear hcz27_1
  try clear hcz9_0
  try clear hcz9_1
  try clear hfz14_0
  try clear hfz14_1
  try clear hfz21_0
  try clear hfz21_1
  try clear hfz27_0
  try clear hfz27_1
  try clear hfz9_0
  try clear hfz9_1
  obtain ⟨kq,x11_4,rfl,HA,HJ4,HO_302000,BK301,BK302,HB⟩ := hcut
  cases kq with
  | zero => exact absurd HA.out (by simp [impl_Store_put.j0])
  | succ kj4 =>
   have H := HA.out
   clear HA
   simp only [impl_Store_put.j0] at H
   by_cases c31 : x11_4 = 0
   ·rw [if_pos c31] at H
    have c31b0 : (x11_4 == 0) = true := beq_iff_eq.mpr c31
    have c31b1 : (x11_4 != 0) = false := bne_eq_false_iff_eq.mpr c31
    clear c31
    replace H := Option.bind_eq_some_iff.mp H
    obtain ⟨⟨t317,t320⟩,A320,H⟩ := H
    try dsimp only at H
    have A32 := Aside0.mk A320
    clear A320
    by_cases c33 : t304 = true
    ·subst c33
     rw [if_pos rfl] at H
     by_cases c34 : 0 ≤ t303
     ·rw [if_pos c34] at H
      have c34b0 : decide (0 ≤ t303) = true := decide_eq_true c34
      clear c34
      by_cases c35 : t303 < (t317.length : Int)
      ·rw [if_pos c35] at H
       have c35b0 : decide (t303 < (t317.length : Int)) = true := decide_eq_true c35
       clear c35
       obtain ⟨y323,hy323⟩ : ∃ y_ : List (S71),y_ = (t317.set (t303 : Int).toNat (⟨a1,a0_1,a2⟩ : S71)) := ⟨_,rfl⟩
       replace H : (some (y323,wrap64 (t320 + 1),a0_1,0)) = some (r1,r2,r3,r4) := by first | (rw [hy323]; with_reducible exact H) | (have H2_ := (Option.bind_some _ _).symm.trans H; rw [hy323]; with_reducible exact H2_) | (have H2_ := (Option.bind_some _ _).symm.trans H; with_reducible exact H2_) | with_reducible exact H | (rw [hy323]; exact H) | exact H
       have Ny323 := Aside0.mk hy323
       clear hy323
       simp only [Option.some.injEq,Prod.mk.injEq] at H
       obtain ⟨rfl,rfl,rfl,rfl⟩ := H
       try go_wp2
       have n0_ := Aside0.mk (Kd.V_drew HO_302000.out)
       have n1_ := Aside0.mk (blk_drew BK301.out)
       have n2_ := Aside0.mk (blk_drew BK302.out)
       have n3_ := Aside0.mk (below_drew1 HB.out)
       clear HO_302000
       clear BK301
       clear BK302
       clear HB
       have HO_302000 := n0_
       have BK301 := n1_
       have BK302 := n2_
       have HB := n3_
       clear n0_ n1_ n2_ n3_
       refine start_ (n:=11) (S:=fun w' => w'.cell? ⟨gb301,0,none⟩ = some (.slice A0_0 l0_0.length c0_0) ∧ w'.cell? ⟨gb301,1,none⟩ = some (.int .i64 a0_1)) (ds := []) (bm 11 0) (by kernel_rfl) rfl rfl ⟨(blk_cell BK301.out 0).trans rfl,(blk_cell BK301.out 1).trans rfl⟩ (fun hHeld => ?_); refine with_tabW impl_Store_put.tab5 impl_Store_put.bits5 (fun HT_ HW_ => ?_)
       generalize wc.drew = w37 at HO_302000 BK301 BK302 HB hHeld ⊢
       refine pV_ 2 48 (bm 11 4) HT_.out ?_
       refine pV_ 3 49 (bm 11 12) HT_.out ?_
       refine pV_ 5 51 (bm 11 44) HT_.out ?_
       refine take_ (i:=0) (N:=some 46) (v:=?_) (a':=?_) (bm 11 45) rfl rfl (take_ofW HT_.out HW_.out (by kernel_rfl)) (fun _ _ _ h => h) (Or.inl ⟨by rfl,?_⟩) hHeld ?_ ?_
       rotate_left
       ·rintro w' ⟨s0,s1⟩
        go_simp
        with_reducible rfl
       rotate_left
       ·simp only [Act.put,setIfInBounds_toArray,set_cons_zero,set_cons_succ,i64_w,i32_w]
        rfl
       refine take_ (i:=4) (N:=some 50) (v:=?_) (a':=?_) (bm 11 61) rfl rfl (take_ofW HT_.out HW_.out (by kernel_rfl)) (fun _ _ _ h => h) (Or.inl ⟨by rfl,?_⟩) hHeld ?_ ?_
       rotate_left
       ·rintro w' ⟨s0,s1⟩
        go_simp
        with_reducible rfl
       rotate_left
       ·simp only [Act.put,setIfInBounds_toArray,set_cons_zero,set_cons_succ,i64_w,i32_w]
        rfl
       refine pV_ 6 52 (bm 11 125) HT_.out ?_
       refine join_ (σ := Value × Nat × Nat) 2 (bm 11 511) (fun s_ => [(47,.agg #[s_.1,.int .i64 t320]),(12,.pointer (some ⟨s_.2.1,0,none⟩)),(13,.pointer (some ⟨s_.2.2,0,none⟩))]) (fun s_ w' => (w'.cell? ⟨gb301,0,none⟩ = some (.slice A0_0 l0_0.length c0_0) ∧ w'.cell? ⟨gb301,1,none⟩ = some (.int .i64 a0_1)) ∧ (Kd.R k71 71 w' w.heap.size (fun k_ => (w.heap.size ≤ k_) ∧ k_ ≠ s_.2.2) s_.1 t317) ∧ (Kd.V k71 71 w' w.heap.size (fun k_ => (P0_0_ k_ ∨ w.heap.size ≤ k_) ∧ some k_ ≠ (s_.1 : Value).ownBlock ∧ k_ ≠ gb301 ∧ k_ ≠ gb302 ∧ k_ ≠ s_.2.1 ∧ k_ ≠ s_.2.2) (.slice A0_0 l0_0.length c0_0) l0_0) ∧ (w'.heap[gb301]? = some (.cells #[.slice A0_0 l0_0.length c0_0,.int .i64 a0_1] 28 (0,0))) ∧ (w'.heap[gb302]? = some (.cells #[.slice none 0 0,.int .i64 0] 28 (0,0))) ∧ (w'.heap[s_.2.1]? = some (.cells #[.slice none 0 0,.int .i64 0] 28 (0,0))) ∧ (w'.heap[s_.2.2]? = some (.cells #[.string (⟨#[]⟩ : ByteArray),.int .i64 0,.string (⟨#[]⟩ : ByteArray)] 71 (0,0))) ∧ (w.heap.size ≤ s_.2.1) ∧ (w.heap.size ≤ s_.2.1) ∧ (gb301 ≠ s_.2.1) ∧ (s_.2.1 ≠ gb301) ∧ (gb302 ≠ s_.2.1) ∧ (s_.2.1 ≠ gb302) ∧ (s_.2.2 ≠ s_.2.1) ∧ (s_.2.1 ≠ s_.2.2) ∧ (w.heap.size ≤ s_.2.2) ∧ (w.heap.size ≤ s_.2.2) ∧ (gb301 ≠ s_.2.2) ∧ (s_.2.2 ≠ gb301) ∧ (gb302 ≠ s_.2.2) ∧ (s_.2.2 ≠ gb302) ∧ (Below w.heap.size w w')) ?_ ?_
       rotate_left
       ·intro hJ1_7_8
        refine join_ (σ := Value × Nat) 3 (bm 11 255) (fun s_ => [(47,.agg #[s_.1,.int .i64 t320]),(12,.pointer (some ⟨s_.2,0,none⟩))]) (fun s_ w' => (w'.cell? ⟨gb301,0,none⟩ = some (.slice A0_0 l0_0.length c0_0) ∧ w'.cell? ⟨gb301,1,none⟩ = some (.int .i64 a0_1)) ∧ (Kd.R k71 71 w' w.heap.size (fun k_ => (w.heap.size ≤ k_)) s_.1 t317) ∧ (Kd.V k71 71 w' w.heap.size (fun k_ => (P0_0_ k_ ∨ w.heap.size ≤ k_) ∧ some k_ ≠ (s_.1 : Value).ownBlock ∧ k_ ≠ gb301 ∧ k_ ≠ gb302 ∧ k_ ≠ s_.2) (.slice A0_0 l0_0.length c0_0) l0_0) ∧ (w'.heap[gb301]? = some (.cells #[.slice A0_0 l0_0.length c0_0,.int .i64 a0_1] 28 (0,0))) ∧ (w'.heap[gb302]? = some (.cells #[.slice none 0 0,.int .i64 0] 28 (0,0))) ∧ (w'.heap[s_.2]? = some (.cells #[.slice none 0 0,.int .i64 0] 28 (0,0))) ∧ (w.heap.size ≤ s_.2) ∧ (w.heap.size ≤ s_.2) ∧ (gb301 ≠ s_.2) ∧ (s_.2 ≠ gb301) ∧ (gb302 ≠ s_.2) ∧ (s_.2 ≠ gb302) ∧ (Below w.heap.size w w')) ?_ ?_
        rotate_left
        ·intro hJ1_7
         refine join_ (σ := Value × Nat) 3 (bm 11 383) (fun s_ => [(47,.agg #[s_.1,.int .i64 t320]),(13,.pointer (some ⟨s_.2,0,none⟩))]) (fun s_ w' => (w'.cell? ⟨gb301,0,none⟩ = some (.slice A0_0 l0_0.length c0_0) ∧ w'.cell? ⟨gb301,1,none⟩ = some (.int .i64 a0_1)) ∧ (Kd.R k71 71 w' w.heap.size (fun k_ => (w.heap.size ≤ k_) ∧ k_ ≠ s_.2) s_.1 t317) ∧ (Kd.V k71 71 w' w.heap.size (fun k_ => (P0_0_ k_ ∨ w.heap.size ≤ k_) ∧ some k_ ≠ (s_.1 : Value).ownBlock ∧ k_ ≠ gb301 ∧ k_ ≠ gb302 ∧ k_ ≠ s_.2) (.slice A0_0 l0_0.length c0_0) l0_0) ∧ (w'.heap[gb301]? = some (.cells #[.slice A0_0 l0_0.length c0_0,.int .i64 a0_1] 28 (0,0))) ∧ (w'.heap[gb302]? = some (.cells #[.slice none 0 0,.int .i64 0] 28 (0,0))) ∧ (w'.heap[s_.2]? = some (.cells #[.string (⟨#[]⟩ : ByteArray),.int .i64 0,.string (⟨#[]⟩ : ByteArray)] 71 (0,0))) ∧ (w.heap.size ≤ s_.2) ∧ (w.heap.size ≤ s_.2) ∧ (gb301 ≠ s_.2) ∧ (s_.2 ≠ gb301) ∧ (gb302 ≠ s_.2) ∧ (s_.2 ≠ gb302) ∧ (Below w.heap.size w w')) ?_ ?_
         rotate_left
         ·intro hJ1_8
          refine join_ (σ := Nat × Nat) 3 (bm 11 509) (fun s_ => [(12,.pointer (some ⟨s_.1,0,none⟩)),(13,.pointer (some ⟨s_.2,0,none⟩))]) (fun s_ w' => (w'.cell? ⟨gb301,0,none⟩ = some (.slice A0_0 l0_0.length c0_0) ∧ w'.cell? ⟨gb301,1,none⟩ = some (.int .i64 a0_1)) ∧ (Kd.V k71 71 w' w.heap.size (fun k_ => (P0_0_ k_ ∨ w.heap.size ≤ k_) ∧ k_ ≠ gb301 ∧ k_ ≠ gb302 ∧ k_ ≠ s_.1 ∧ k_ ≠ s_.2) (.slice A0_0 l0_0.length c0_0) l0_0) ∧ (w'.heap[gb301]? = some (.cells #[.slice A0_0 l0_0.length c0_0,.int .i64 a0_1] 28 (0,0))) ∧ (w'.heap[gb302]? = some (.cells #[.slice none 0 0,.int .i64 0] 28 (0,0))) ∧ (w'.heap[s_.1]? = some (.cells #[.slice none 0 0,.int .i64 0] 28 (0,0))) ∧ (w'.heap[s_.2]? = some (.cells #[.string (⟨#[]⟩ : ByteArray),.int .i64 0,.string (⟨#[]⟩ : ByteArray)] 71 (0,0))) ∧ (w.heap.size ≤ s_.1) ∧ (w.heap.size ≤ s_.1) ∧ (gb301 ≠ s_.1) ∧ (s_.1 ≠ gb301) ∧ (gb302 ≠ s_.1) ∧ (s_.1 ≠ gb302) ∧ (s_.2 ≠ s_.1) ∧ (s_.1 ≠ s_.2) ∧ (w.heap.size ≤ s_.2) ∧ (w.heap.size ≤ s_.2) ∧ (gb301 ≠ s_.2) ∧ (s_.2 ≠ gb301) ∧ (gb302 ≠ s_.2) ∧ (s_.2 ≠ gb302) ∧ (Below w.heap.size w w')) ?_ ?_
          rotate_left
          ·intro hJ7_8
           refine join_ (σ := Value) 4 (bm 11 127) (fun s_ => [(47,.agg #[s_,.int .i64 t320])]) (fun s_ w' => (w'.cell? ⟨gb301,0,none⟩ = some (.slice A0_0 l0_0.length c0_0) ∧ w'.cell? ⟨gb301,1,none⟩ = some (.int .i64 a0_1)) ∧ (Kd.R k71 71 w' w.heap.size (fun k_ => (w.heap.size ≤ k_)) s_ t317) ∧ (Kd.V k71 71 w' w.heap.size (fun k_ => (P0_0_ k_ ∨ w.heap.size ≤ k_) ∧ some k_ ≠ (s_ : Value).ownBlock ∧ k_ ≠ gb301 ∧ k_ ≠ gb302) (.slice A0_0 l0_0.length c0_0) l0_0) ∧ (w'.heap[gb301]? = some (.cells #[.slice A0_0 l0_0.length c0_0,.int .i64 a0_1] 28 (0,0))) ∧ (w'.heap[gb302]? = some (.cells #[.slice none 0 0,.int .i64 0] 28 (0,0))) ∧ (Below w.heap.size w w')) ?_ ?_
           rotate_left
           ·intro hJ1
            refine join_ (σ := Nat) 4 (bm 11 253) (fun s_ => [(12,.pointer (some ⟨s_,0,none⟩))]) (fun s_ w' => (w'.cell? ⟨gb301,0,none⟩ = some (.slice A0_0 l0_0.length c0_0) ∧ w'.cell? ⟨gb301,1,none⟩ = some (.int .i64 a0_1)) ∧ (Kd.V k71 71 w' w.heap.size (fun k_ => (P0_0_ k_ ∨ w.heap.size ≤ k_) ∧ k_ ≠ gb301 ∧ k_ ≠ gb302 ∧ k_ ≠ s_) (.slice A0_0 l0_0.length c0_0) l0_0) ∧ (w'.heap[gb301]? = some (.cells #[.slice A0_0 l0_0.length c0_0,.int .i64 a0_1] 28 (0,0))) ∧ (w'.heap[gb302]? = some (.cells #[.slice none 0 0,.int .i64 0] 28 (0,0))) ∧ (w'.heap[s_]? = some (.cells #[.slice none 0 0,.int .i64 0] 28 (0,0))) ∧ (w.heap.size ≤ s_) ∧ (w.heap.size ≤ s_) ∧ (gb301 ≠ s_) ∧ (s_ ≠ gb301) ∧ (gb302 ≠ s_) ∧ (s_ ≠ gb302) ∧ (Below w.heap.size w w')) ?_ ?_
            rotate_left
            ·intro hJ7
             refine join_ (σ := Nat) 4 (bm 11 381) (fun s_ => [(13,.pointer (some ⟨s_,0,none⟩))]) (fun s_ w' => (w'.cell? ⟨gb301,0,none⟩ = some (.slice A0_0 l0_0.length c0_0) ∧ w'.cell? ⟨gb301,1,none⟩ = some (.int .i64 a0_1)) ∧ (Kd.V k71 71 w' w.heap.size (fun k_ => (P0_0_ k_ ∨ w.heap.size ≤ k_) ∧ k_ ≠ gb301 ∧ k_ ≠ gb302 ∧ k_ ≠ s_) (.slice A0_0 l0_0.length c0_0) l0_0) ∧ (w'.heap[gb301]? = some (.cells #[.slice A0_0 l0_0.length c0_0,.int .i64 a0_1] 28 (0,0))) ∧ (w'.heap[gb302]? = some (.cells #[.slice none 0 0,.int .i64 0] 28 (0,0))) ∧ (w'.heap[s_]? = some (.cells #[.string (⟨#[]⟩ : ByteArray),.int .i64 0,.string (⟨#[]⟩ : ByteArray)] 71 (0,0))) ∧ (w.heap.size ≤ s_) ∧ (w.heap.size ≤ s_) ∧ (gb301 ≠ s_) ∧ (s_ ≠ gb301) ∧ (gb302 ≠ s_) ∧ (s_ ≠ gb302) ∧ (Below w.heap.size w w')) ?_ ?_
             rotate_left
             ·intro hJ8
              refine three_ (i:=1) (j:=7) (k:=8) (Ni := some 47) (Nj := some 12) (Nk := some 13) (bm 11 127) (bm 11 253) (bm 11 381) rfl rfl rfl rfl rfl rfl (three_of HT_.out (by kernel_rfl)) (by decide) (by decide) (by decide) (fun K hK => ?_) (fun K hK => ?_) (fun K hK => ?_)
              ·skip
               refine goes_ Try.func32 (by kernel_rfl) rfl #[.agg #[.slice A0_0 l0_0.length c0_0,.int .i64 a0_1]] (by rfl) rfl rfl mA ?_
               with_reducible refine (impl_Store_copied.calls _ _ l0_0 a0_1 t317 t320 _ ?side1 ?side2 A32.out).mono ?_
               (case side1 => repeat (first | exact (Kd.V_reads' HO_302000.out).2.2 | (with_reducible refine Kd.C_alloc ?_ _) | (with_reducible refine Kd.C_drewN ?_ _) | (with_reducible refine Kd.C_drew ?_)))
               (case side2 => exact (Kd.V_reads' HO_302000.out).2.1)
               rintro e w38 ⟨v318,rfl,ho0,hb⟩
               refine ⟨_,rfl,?_⟩
               have n0_ := Aside0.mk (Kd.V_elder' (by (with_reducible repeat (first | apply Kd.V_alloc | apply Kd.V_drewN | apply Kd.V_drew)); exact HO_302000.out) (Kd.R_base ho0) hb)
               have n1_ := Aside0.mk (Kd.R_lower (Kd.R_newM (M:=fun k_ => (w.heap.size ≤ k_)) ho0 (below_size bA) (fun k_ h_ => h_)) (below_size bA))
               have n2_ := Aside0.mk (blk_below (g:=gb301) (o:=.cells #[.slice A0_0 l0_0.length c0_0,.int .i64 a0_1] 28 (0,0)) (kA BK301.out) hb)
               have n3_ := Aside0.mk (blk_below (g:=gb302) (o:=.cells #[.slice none 0 0,.int .i64 0] 28 (0,0)) (kA BK302.out) hb)
               have n4_ := Aside0.mk (below_step bA hb)
               clear HO_302000
               clear BK301
               clear BK302
               clear HB
               have HO_302000 := n0_
               have HO319 := n1_
               have BK301 := n2_
               have BK302 := n3_
               have HB := n4_
               clear n0_ n1_ n2_ n3_ n4_
               (try clear hb)
               (try clear hb2)
               (try clear hk)
               (try clear hi)
               (try clear ho0)
               refine hK.out _ _ ⟨(blk_cell BK301.out 0).trans rfl,(blk_cell BK301.out 1).trans rfl⟩ (fun hHeld => ?_)
               clear hK K
               refine norm_ (a':=?_) ?_ ?_
               rotate_left
               ·show Act.put _ (some 47) _ = _
                simp only [Act.put,setIfInBounds_toArray,set_cons_zero,set_cons_succ,i64_w,i32_w]
                rfl
               exact norm_ (by first | (simp only [putAll,Act.put,setIfInBounds_toArray,set_cons_zero,set_cons_succ]; done) | (simp only [putAll,Act.put,setIfInBounds_toArray,set_cons_zero,set_cons_succ]; rfl)) (hJ1 (v318) _ ⟨hHeld,(by (with_reducible repeat (first | apply Kd.R_alloc | apply Kd.R_drewN | apply Kd.R_drew)); exact Kd.R_mono HO319.out (fun _ hk => hk.1)),(by (with_reducible repeat (first | apply Kd.V_alloc | apply Kd.V_drewN | apply Kd.V_drew)); exact Kd.V_mono HO_302000.out (fun _ hk => ⟨hk.1.1,⟨hk.2,⟨hk.1.2.1,hk.1.2.2⟩⟩⟩)),(kA BK301.out),(kA BK302.out),bA⟩)
              ·skip
               refine box_step ?hg (N:=12) ?hd (cs := #[.slice none 0 0,.int .i64 0]) (t:=28) ?hr ?_; (case hd => rfl); (case hg => rfl); (case hr => first | (go_simp; done) | (go_simp; rfl))
               intro gb321 hg w38 hbox hb
               have n0_ := Aside0.mk (Kd.V_below (Kd.V_elderB (by (with_reducible repeat (first | apply Kd.V_alloc | apply Kd.V_drewN | apply Kd.V_drew)); exact HO_302000.out) gb321 (Nat.le_of_eq hg.symm)) hb)
               have n1_ := Aside0.mk (blk_below (g:=gb301) (o:=.cells #[.slice A0_0 l0_0.length c0_0,.int .i64 a0_1] 28 (0,0)) (kA BK301.out) hb)
               have n2_ := Aside0.mk (blk_below (g:=gb302) (o:=.cells #[.slice none 0 0,.int .i64 0] 28 (0,0)) (kA BK302.out) hb)
               have n3_ := Aside0.mk (below_step bA hb)
               have n4_ := Aside0.mk (hbox)
               have n5_ := Aside0.mk ((by rw [hg]; exact (below_size bA) : w.heap.size ≤ gb321))
               have n6_ := Aside0.mk ((by rw [hg]; exact (below_size bA) : w.heap.size ≤ gb321))
               have n7_ := Aside0.mk ((by rw [hg]; exact Nat.ne_of_lt (blk_lt (g:=gb301) (o:=.cells #[.slice A0_0 l0_0.length c0_0,.int .i64 a0_1] 28 (0,0)) (kA BK301.out)) : gb301 ≠ gb321))
               have n8_ := Aside0.mk ((by rw [hg]; exact Nat.ne_of_gt (blk_lt (g:=gb301) (o:=.cells #[.slice A0_0 l0_0.length c0_0,.int .i64 a0_1] 28 (0,0)) (kA BK301.out)) : gb321 ≠ gb301))
               have n9_ := Aside0.mk ((by rw [hg]; exact Nat.ne_of_lt (blk_lt (g:=gb302) (o:=.cells #[.slice none 0 0,.int .i64 0] 28 (0,0)) (kA BK302.out)) : gb302 ≠ gb321))
               have n10_ := Aside0.mk ((by rw [hg]; exact Nat.ne_of_gt (blk_lt (g:=gb302) (o:=.cells #[.slice none 0 0,.int .i64 0] 28 (0,0)) (kA BK302.out)) : gb321 ≠ gb302))
               clear HO_302000
               clear BK301
               clear BK302
               clear HB
               have HO_302000 := n0_
               have BK301 := n1_
               have BK302 := n2_
               have HB := n3_
               have BK321 := n4_
               have GW321 := n5_
               have GE321 := n6_
               have NB301_321 := n7_
               have NB321_301 := n8_
               have NB302_321 := n9_
               have NB321_302 := n10_
               clear n0_ n1_ n2_ n3_ n4_ n5_ n6_ n7_ n8_ n9_ n10_
               clear hb hbox hg
               refine hK.out _ _ ⟨(blk_cell BK301.out 0).trans rfl,(blk_cell BK301.out 1).trans rfl⟩ (fun hHeld => ?_)
               clear hK K
               refine norm_ (a':=?_) ?_ ?_
               rotate_left
               ·show Act.put _ (some 12) _ = _
                simp only [Act.put,setIfInBounds_toArray,set_cons_zero,set_cons_succ,i64_w,i32_w]
                rfl
               exact norm_ (by first | (simp only [putAll,Act.put,setIfInBounds_toArray,set_cons_zero,set_cons_succ]; done) | (simp only [putAll,Act.put,setIfInBounds_toArray,set_cons_zero,set_cons_succ]; rfl)) (hJ7 (gb321) _ ⟨hHeld,(by (with_reducible repeat (first | apply Kd.V_alloc | apply Kd.V_drewN | apply Kd.V_drew)); exact Kd.V_mono HO_302000.out (fun _ hk => ⟨hk.1.1,⟨hk.1.2.1,⟨hk.1.2.2,hk.2⟩⟩⟩)),(kA BK301.out),(kA BK302.out),(kA BK321.out),GW321.out,GE321.out,NB301_321.out,NB321_301.out,NB302_321.out,NB321_302.out,bA⟩)
              ·skip
               refine box_step ?hg (N:=13) ?hd (cs := #[.string (⟨#[]⟩ : ByteArray),.int .i64 0,.string (⟨#[]⟩ : ByteArray)]) (t:=71) ?hr ?_; (case hd => rfl); (case hg => rfl); (case hr => first | (go_simp; done) | (go_simp; rfl))
               intro gb322 hg w38 hbox hb
               have n0_ := Aside0.mk (Kd.V_below (Kd.V_elderB (by (with_reducible repeat (first | apply Kd.V_alloc | apply Kd.V_drewN | apply Kd.V_drew)); exact HO_302000.out) gb322 (Nat.le_of_eq hg.symm)) hb)
               have n1_ := Aside0.mk (blk_below (g:=gb301) (o:=.cells #[.slice A0_0 l0_0.length c0_0,.int .i64 a0_1] 28 (0,0)) (kA BK301.out) hb)
               have n2_ := Aside0.mk (blk_below (g:=gb302) (o:=.cells #[.slice none 0 0,.int .i64 0] 28 (0,0)) (kA BK302.out) hb)
               have n3_ := Aside0.mk (below_step bA hb)
               have n4_ := Aside0.mk (hbox)
               have n5_ := Aside0.mk ((by rw [hg]; exact (below_size bA) : w.heap.size ≤ gb322))
               have n6_ := Aside0.mk ((by rw [hg]; exact (below_size bA) : w.heap.size ≤ gb322))
               have n7_ := Aside0.mk ((by rw [hg]; exact Nat.ne_of_lt (blk_lt (g:=gb301) (o:=.cells #[.slice A0_0 l0_0.length c0_0,.int .i64 a0_1] 28 (0,0)) (kA BK301.out)) : gb301 ≠ gb322))
               have n8_ := Aside0.mk ((by rw [hg]; exact Nat.ne_of_gt (blk_lt (g:=gb301) (o:=.cells #[.slice A0_0 l0_0.length c0_0,.int .i64 a0_1] 28 (0,0)) (kA BK301.out)) : gb322 ≠ gb301))
               have n9_ := Aside0.mk ((by rw [hg]; exact Nat.ne_of_lt (blk_lt (g:=gb302) (o:=.cells #[.slice none 0 0,.int .i64 0] 28 (0,0)) (kA BK302.out)) : gb302 ≠ gb322))
               have n10_ := Aside0.mk ((by rw [hg]; exact Nat.ne_of_gt (blk_lt (g:=gb302) (o:=.cells #[.slice none 0 0,.int .i64 0] 28 (0,0)) (kA BK302.out)) : gb322 ≠ gb302))
               clear HO_302000
               clear BK301
               clear BK302
               clear HB
               have HO_302000 := n0_
               have BK301 := n1_
               have BK302 := n2_
               have HB := n3_
               have BK322 := n4_
               have GW322 := n5_
               have GE322 := n6_
               have NB301_322 := n7_
               have NB322_301 := n8_
               have NB302_322 := n9_
               have NB322_302 := n10_
               clear n0_ n1_ n2_ n3_ n4_ n5_ n6_ n7_ n8_ n9_ n10_
               clear hb hbox hg
               refine hK.out _ _ ⟨(blk_cell BK301.out 0).trans rfl,(blk_cell BK301.out 1).trans rfl⟩ (fun hHeld => ?_)
               clear hK K
               refine norm_ (a':=?_) ?_ ?_
               rotate_left
               ·show Act.put _ (some 13) _ = _
                simp only [Act.put,setIfInBounds_toArray,set_cons_zero,set_cons_succ,i64_w,i32_w]
                rfl
               exact norm_ (by first | (simp only [putAll,Act.put,setIfInBounds_toArray,set_cons_zero,set_cons_succ]; done) | (simp only [putAll,Act.put,setIfInBounds_toArray,set_cons_zero,set_cons_succ]; rfl)) (hJ8 (gb322) _ ⟨hHeld,(by (with_reducible repeat (first | apply Kd.V_alloc | apply Kd.V_drewN | apply Kd.V_drew)); exact Kd.V_mono HO_302000.out (fun _ hk => ⟨hk.1.1,⟨hk.1.2.1,⟨hk.1.2.2,hk.2⟩⟩⟩)),(kA BK301.out),(kA BK302.out),(kA BK322.out),GW322.out,GE322.out,NB301_322.out,NB322_301.out,NB302_322.out,NB322_302.out,bA⟩)
             ·skip
              rintro gb322 w39 ⟨hS_,h0_,h1_,h2_,h3_,h4_,h5_,h6_,h7_,h8_,h9_,h10_⟩
              have n0_ : Aside0 (Kd.V k71 71 w39 w.heap.size (fun k_ => (P0_0_ k_ ∨ w.heap.size ≤ k_) ∧ k_ ≠ gb301 ∧ k_ ≠ gb302 ∧ k_ ≠ gb322) (.slice A0_0 l0_0.length c0_0) l0_0) := ⟨h0_⟩
              have n1_ : Aside0 (w39.heap[gb301]? = some (.cells #[.slice A0_0 l0_0.length c0_0,.int .i64 a0_1] 28 (0,0))) := ⟨h1_⟩
              have n2_ : Aside0 (w39.heap[gb302]? = some (.cells #[.slice none 0 0,.int .i64 0] 28 (0,0))) := ⟨h2_⟩
              have n3_ : Aside0 (w39.heap[gb322]? = some (.cells #[.string (⟨#[]⟩ : ByteArray),.int .i64 0,.string (⟨#[]⟩ : ByteArray)] 71 (0,0))) := ⟨h3_⟩
              have n4_ : Aside0 (w.heap.size ≤ gb322) := ⟨h4_⟩
              have n5_ : Aside0 (w.heap.size ≤ gb322) := ⟨h5_⟩
              have n6_ : Aside0 (gb301 ≠ gb322) := ⟨h6_⟩
              have n7_ : Aside0 (gb322 ≠ gb301) := ⟨h7_⟩
              have n8_ : Aside0 (gb302 ≠ gb322) := ⟨h8_⟩
              have n9_ : Aside0 (gb322 ≠ gb302) := ⟨h9_⟩
              have n10_ : Aside0 (Below w.heap.size w w39) := ⟨h10_⟩
              clear HO_302000
              clear BK301
              clear BK302
              clear HB
              clear h0_ h1_ h2_ h3_ h4_ h5_ h6_ h7_ h8_ h9_ h10_
              have HO_302000 := n0_
              have BK301 := n1_
              have BK302 := n2_
              have BK322 := n3_
              have GW322 := n4_
              have GE322 := n5_
              have NB301_322 := n6_
              have NB322_301 := n7_
              have NB302_322 := n8_
              have NB322_302 := n9_
              have HB := n10_
              clear n0_ n1_ n2_ n3_ n4_ n5_ n6_ n7_ n8_ n9_ n10_
              have hHeld : w39.cell? ⟨gb301,0,none⟩ = some (.slice A0_0 l0_0.length c0_0) ∧ w39.cell? ⟨gb301,1,none⟩ = some (.int .i64 a0_1) := hS_
              refine norm_ (a':=?_) ?_ ?_
              rotate_left
              ·simp only [putAll,Act.put,setIfInBounds_toArray,set_cons_zero,set_cons_succ]
               rfl
              refine two_ (i:=1) (j:=7) (Ni := some 47) (Nj := some 12) (bm 11 383) (bm 11 509) rfl rfl rfl rfl (two_of HT_.out (by kernel_rfl)) (by decide) (by decide) (fun K hK => ?_) (fun K hK => ?_)
              ·skip
               refine goes_ Try.func32 (by kernel_rfl) rfl #[.agg #[.slice A0_0 l0_0.length c0_0,.int .i64 a0_1]] (by rfl) rfl rfl mA ?_
               with_reducible refine (impl_Store_copied.calls _ _ l0_0 a0_1 t317 t320 _ ?side1 ?side2 A32.out).mono ?_
               (case side1 => repeat (first | exact (Kd.V_reads' HO_302000.out).2.2 | (with_reducible refine Kd.C_alloc ?_ _) | (with_reducible refine Kd.C_drewN ?_ _) | (with_reducible refine Kd.C_drew ?_)))
               (case side2 => exact (Kd.V_reads' HO_302000.out).2.1)
               rintro e w40 ⟨v318,rfl,ho0,hb⟩
               refine ⟨_,rfl,?_⟩
               have n0_ := Aside0.mk (Kd.V_elder' (by (with_reducible repeat (first | apply Kd.V_alloc | apply Kd.V_drewN | apply Kd.V_drew)); exact HO_302000.out) (Kd.R_base ho0) hb)
               have n1_ := Aside0.mk (Kd.R_lower (Kd.R_newB (Kd.R_newM (M:=fun k_ => (w.heap.size ≤ k_)) ho0 (below_size bA) (fun k_ h_ => h_)) (g:=gb322) (o:=.cells #[.string (⟨#[]⟩ : ByteArray),.int .i64 0,.string (⟨#[]⟩ : ByteArray)] 71 (0,0)) (kA BK322.out)) (below_size bA))
               have n2_ := Aside0.mk (blk_below (g:=gb301) (o:=.cells #[.slice A0_0 l0_0.length c0_0,.int .i64 a0_1] 28 (0,0)) (kA BK301.out) hb)
               have n3_ := Aside0.mk (blk_below (g:=gb302) (o:=.cells #[.slice none 0 0,.int .i64 0] 28 (0,0)) (kA BK302.out) hb)
               have n4_ := Aside0.mk (blk_below (g:=gb322) (o:=.cells #[.string (⟨#[]⟩ : ByteArray),.int .i64 0,.string (⟨#[]⟩ : ByteArray)] 71 (0,0)) (kA BK322.out) hb)
               have n5_ := Aside0.mk (below_step bA hb)
               clear HO_302000
               clear BK301
               clear BK302
               clear BK322
               clear HB
               have HO_302000 := n0_
               have HO319 := n1_
               have BK301 := n2_
               have BK302 := n3_
               have BK322 := n4_
               have HB := n5_
               clear n0_ n1_ n2_ n3_ n4_ n5_
               (try clear hb)
               (try clear hb2)
               (try clear hk)
               (try clear hi)
               (try clear ho0)
               refine hK.out _ _ ⟨(blk_cell BK301.out 0).trans rfl,(blk_cell BK301.out 1).trans rfl⟩ (fun hHeld => ?_)
               clear hK K
               refine norm_ (a':=?_) ?_ ?_
               rotate_left
               ·show Act.put _ (some 47) _ = _
                simp only [Act.put,setIfInBounds_toArray,set_cons_zero,set_cons_succ,i64_w,i32_w]
                rfl
               exact norm_ (by first | (simp only [putAll,Act.put,setIfInBounds_toArray,set_cons_zero,set_cons_succ]; done) | (simp only [putAll,Act.put,setIfInBounds_toArray,set_cons_zero,set_cons_succ]; rfl)) (hJ1_8 (v318,gb322) _ ⟨hHeld,(by (with_reducible repeat (first | apply Kd.R_alloc | apply Kd.R_drewN | apply Kd.R_drew)); exact Kd.R_mono HO319.out (fun _ hk => ⟨hk.1.1,hk.2⟩)),(by (with_reducible repeat (first | apply Kd.V_alloc | apply Kd.V_drewN | apply Kd.V_drew)); exact Kd.V_mono HO_302000.out (fun _ hk => ⟨hk.1.1,⟨hk.2,⟨hk.1.2.1,⟨hk.1.2.2.1,hk.1.2.2.2⟩⟩⟩⟩)),(kA BK301.out),(kA BK302.out),(kA BK322.out),GW322.out,GE322.out,NB301_322.out,NB322_301.out,NB302_322.out,NB322_302.out,bA⟩)
              ·skip
               refine box_step ?hg (N:=12) ?hd (cs := #[.slice none 0 0,.int .i64 0]) (t:=28) ?hr ?_; (case hd => rfl); (case hg => rfl); (case hr => first | (go_simp; done) | (go_simp; rfl))
               intro gb321 hg w40 hbox hb
               have n0_ := Aside0.mk (Kd.V_below (Kd.V_elderB (by (with_reducible repeat (first | apply Kd.V_alloc | apply Kd.V_drewN | apply Kd.V_drew)); exact HO_302000.out) gb321 (Nat.le_of_eq hg.symm)) hb)
               have n1_ := Aside0.mk (blk_below (g:=gb301) (o:=.cells #[.slice A0_0 l0_0.length c0_0,.int .i64 a0_1] 28 (0,0)) (kA BK301.out) hb)
               have n2_ := Aside0.mk (blk_below (g:=gb302) (o:=.cells #[.slice none 0 0,.int .i64 0] 28 (0,0)) (kA BK302.out) hb)
               have n3_ := Aside0.mk (blk_below (g:=gb322) (o:=.cells #[.string (⟨#[]⟩ : ByteArray),.int .i64 0,.string (⟨#[]⟩ : ByteArray)] 71 (0,0)) (kA BK322.out) hb)
               have n4_ := Aside0.mk (below_step bA hb)
               have n5_ := Aside0.mk (hbox)
               have n6_ := Aside0.mk ((by rw [hg]; exact (below_size bA) : w.heap.size ≤ gb321))
               have n7_ := Aside0.mk ((by rw [hg]; exact (below_size bA) : w.heap.size ≤ gb321))
               have n8_ := Aside0.mk ((by rw [hg]; exact Nat.ne_of_lt (blk_lt (g:=gb301) (o:=.cells #[.slice A0_0 l0_0.length c0_0,.int .i64 a0_1] 28 (0,0)) (kA BK301.out)) : gb301 ≠ gb321))
               have n9_ := Aside0.mk ((by rw [hg]; exact Nat.ne_of_gt (blk_lt (g:=gb301) (o:=.cells #[.slice A0_0 l0_0.length c0_0,.int .i64 a0_1] 28 (0,0)) (kA BK301.out)) : gb321 ≠ gb301))
               have n10_ := Aside0.mk ((by rw [hg]; exact Nat.ne_of_lt (blk_lt (g:=gb302) (o:=.cells #[.slice none 0 0,.int .i64 0] 28 (0,0)) (kA BK302.out)) : gb302 ≠ gb321))
               have n11_ := Aside0.mk ((by rw [hg]; exact Nat.ne_of_gt (blk_lt (g:=gb302) (o:=.cells #[.slice none 0 0,.int .i64 0] 28 (0,0)) (kA BK302.out)) : gb321 ≠ gb302))
               have n12_ := Aside0.mk ((by rw [hg]; exact Nat.ne_of_lt (blk_lt (g:=gb322) (o:=.cells #[.string (⟨#[]⟩ : ByteArray),.int .i64 0,.string (⟨#[]⟩ : ByteArray)] 71 (0,0)) (kA BK322.out)) : gb322 ≠ gb321))
               have n13_ := Aside0.mk ((by rw [hg]; exact Nat.ne_of_gt (blk_lt (g:=gb322) (o:=.cells #[.string (⟨#[]⟩ : ByteArray),.int .i64 0,.string (⟨#[]⟩ : ByteArray)] 71 (0,0)) (kA BK322.out)) : gb321 ≠ gb322))
               clear HO_302000
               clear BK301
               clear BK302
               clear BK322
               clear HB
               have HO_302000 := n0_
               have BK301 := n1_
               have BK302 := n2_
               have BK322 := n3_
               have HB := n4_
               have BK321 := n5_
               have GW321 := n6_
               have GE321 := n7_
               have NB301_321 := n8_
               have NB321_301 := n9_
               have NB302_321 := n10_
               have NB321_302 := n11_
               have NB322_321 := n12_
               have NB321_322 := n13_
               clear n0_ n1_ n2_ n3_ n4_ n5_ n6_ n7_ n8_ n9_ n10_ n11_ n12_ n13_
               clear hb hbox hg
               refine hK.out _ _ ⟨(blk_cell BK301.out 0).trans rfl,(blk_cell BK301.out 1).trans rfl⟩ (fun hHeld => ?_)
               clear hK K
               refine norm_ (a':=?_) ?_ ?_
               rotate_left
               ·show Act.put _ (some 12) _ = _
                simp only [Act.put,setIfInBounds_toArray,set_cons_zero,set_cons_succ,i64_w,i32_w]
                rfl
               exact norm_ (by first | (simp only [putAll,Act.put,setIfInBounds_toArray,set_cons_zero,set_cons_succ]; done) | (simp only [putAll,Act.put,setIfInBounds_toArray,set_cons_zero,set_cons_succ]; rfl)) (hJ7_8 (gb321,gb322) _ ⟨hHeld,(by (with_reducible repeat (first | apply Kd.V_alloc | apply Kd.V_drewN | apply Kd.V_drew)); exact Kd.V_mono HO_302000.out (fun _ hk => ⟨hk.1.1,⟨hk.1.2.1,⟨hk.1.2.2.1,⟨hk.2,hk.1.2.2.2⟩⟩⟩⟩)),(kA BK301.out),(kA BK302.out),(kA BK321.out),(kA BK322.out),GW321.out,GE321.out,NB301_321.out,NB321_301.out,NB302_321.out,NB321_302.out,NB322_321.out,NB321_322.out,GW322.out,GE322.out,NB301_322.out,NB322_301.out,NB302_322.out,NB322_302.out,bA⟩)
            ·skip
             rintro gb321 w39 ⟨hS_,h0_,h1_,h2_,h3_,h4_,h5_,h6_,h7_,h8_,h9_,h10_⟩
             have n0_ : Aside0 (Kd.V k71 71 w39 w.heap.size (fun k_ => (P0_0_ k_ ∨ w.heap.size ≤ k_) ∧ k_ ≠ gb301 ∧ k_ ≠ gb302 ∧ k_ ≠ gb321) (.slice A0_0 l0_0.length c0_0) l0_0) := ⟨h0_⟩
             have n1_ : Aside0 (w39.heap[gb301]? = some (.cells #[.slice A0_0 l0_0.length c0_0,.int .i64 a0_1] 28 (0,0))) := ⟨h1_⟩
             have n2_ : Aside0 (w39.heap[gb302]? = some (.cells #[.slice none 0 0,.int .i64 0] 28 (0,0))) := ⟨h2_⟩
             have n3_ : Aside0 (w39.heap[gb321]? = some (.cells #[.slice none 0 0,.int .i64 0] 28 (0,0))) := ⟨h3_⟩
             have n4_ : Aside0 (w.heap.size ≤ gb321) := ⟨h4_⟩
             have n5_ : Aside0 (w.heap.size ≤ gb321) := ⟨h5_⟩
             have n6_ : Aside0 (gb301 ≠ gb321) := ⟨h6_⟩
             have n7_ : Aside0 (gb321 ≠ gb301) := ⟨h7_⟩
             have n8_ : Aside0 (gb302 ≠ gb321) := ⟨h8_⟩
             have n9_ : Aside0 (gb321 ≠ gb302) := ⟨h9_⟩
             have n10_ : Aside0 (Below w.heap.size w w39) := ⟨h10_⟩
             clear HO_302000
             clear BK301
             clear BK302
             clear HB
             clear h0_ h1_ h2_ h3_ h4_ h5_ h6_ h7_ h8_ h9_ h10_
             have HO_302000 := n0_
             have BK301 := n1_
             have BK302 := n2_
             have BK321 := n3_
             have GW321 := n4_
             have GE321 := n5_
             have NB301_321 := n6_
             have NB321_301 := n7_
             have NB302_321 := n8_
             have NB321_302 := n9_
             have HB := n10_
             clear n0_ n1_ n2_ n3_ n4_ n5_ n6_ n7_ n8_ n9_ n10_
             have hHeld : w39.cell? ⟨gb301,0,none⟩ = some (.slice A0_0 l0_0.length c0_0) ∧ w39.cell? ⟨gb301,1,none⟩ = some (.int .i64 a0_1) := hS_
             refine norm_ (a':=?_) ?_ ?_
             rotate_left
             ·simp only [putAll,Act.put,setIfInBounds_toArray,set_cons_zero,set_cons_succ]
              rfl
             refine two_ (i:=1) (j:=8) (Ni := some 47) (Nj := some 13) (bm 11 255) (bm 11 509) rfl rfl rfl rfl (two_of HT_.out (by kernel_rfl)) (by decide) (by decide) (fun K hK => ?_) (fun K hK => ?_)
             ·skip
              refine goes_ Try.func32 (by kernel_rfl) rfl #[.agg #[.slice A0_0 l0_0.length c0_0,.int .i64 a0_1]] (by rfl) rfl rfl mA ?_
              with_reducible refine (impl_Store_copied.calls _ _ l0_0 a0_1 t317 t320 _ ?side1 ?side2 A32.out).mono ?_
              (case side1 => repeat (first | exact (Kd.V_reads' HO_302000.out).2.2 | (with_reducible refine Kd.C_alloc ?_ _) | (with_reducible refine Kd.C_drewN ?_ _) | (with_reducible refine Kd.C_drew ?_)))
              (case side2 => exact (Kd.V_reads' HO_302000.out).2.1)
              rintro e w40 ⟨v318,rfl,ho0,hb⟩
              refine ⟨_,rfl,?_⟩
              have n0_ := Aside0.mk (Kd.V_elder' (by (with_reducible repeat (first | apply Kd.V_alloc | apply Kd.V_drewN | apply Kd.V_drew)); exact HO_302000.out) (Kd.R_base ho0) hb)
              have n1_ := Aside0.mk (Kd.R_lower (Kd.R_newM (M:=fun k_ => (w.heap.size ≤ k_)) ho0 (below_size bA) (fun k_ h_ => h_)) (below_size bA))
              have n2_ := Aside0.mk (blk_below (g:=gb301) (o:=.cells #[.slice A0_0 l0_0.length c0_0,.int .i64 a0_1] 28 (0,0)) (kA BK301.out) hb)
              have n3_ := Aside0.mk (blk_below (g:=gb302) (o:=.cells #[.slice none 0 0,.int .i64 0] 28 (0,0)) (kA BK302.out) hb)
              have n4_ := Aside0.mk (blk_below (g:=gb321) (o:=.cells #[.slice none 0 0,.int .i64 0] 28 (0,0)) (kA BK321.out) hb)
              have n5_ := Aside0.mk (below_step bA hb)
              clear HO_302000
              clear BK301
              clear BK302
              clear BK321
              clear HB
              have HO_302000 := n0_
              have HO319 := n1_
              have BK301 := n2_
              have BK302 := n3_
              have BK321 := n4_
              have HB := n5_
              clear n0_ n1_ n2_ n3_ n4_ n5_
              (try clear hb)
              (try clear hb2)
              (try clear hk)
              (try clear hi)
              (try clear ho0)
              refine hK.out _ _ ⟨(blk_cell BK301.out 0).trans rfl,(blk_cell BK301.out 1).trans rfl⟩ (fun hHeld => ?_)
              clear hK K
              refine norm_ (a':=?_) ?_ ?_
              rotate_left
              ·show Act.put _ (some 47) _ = _
               simp only [Act.put,setIfInBounds_toArray,set_cons_zero,set_cons_succ,i64_w,i32_w]
               rfl
              exact norm_ (by first | (simp only [putAll,Act.put,setIfInBounds_toArray,set_cons_zero,set_cons_succ]; done) | (simp only [putAll,Act.put,setIfInBounds_toArray,set_cons_zero,set_cons_succ]; rfl)) (hJ1_7 (v318,gb321) _ ⟨hHeld,(by (with_reducible repeat (first | apply Kd.R_alloc | apply Kd.R_drewN | apply Kd.R_drew)); exact Kd.R_mono HO319.out (fun _ hk => hk.1)),(by (with_reducible repeat (first | apply Kd.V_alloc | apply Kd.V_drewN | apply Kd.V_drew)); exact Kd.V_mono HO_302000.out (fun _ hk => ⟨hk.1.1,⟨hk.2,⟨hk.1.2.1,⟨hk.1.2.2.1,hk.1.2.2.2⟩⟩⟩⟩)),(kA BK301.out),(kA BK302.out),(kA BK321.out),GW321.out,GE321.out,NB301_321.out,NB321_301.out,NB302_321.out,NB321_302.out,bA⟩)
             ·skip
              refine box_step ?hg (N:=13) ?hd (cs := #[.string (⟨#[]⟩ : ByteArray),.int .i64 0,.string (⟨#[]⟩ : ByteArray)]) (t:=71) ?hr ?_; (case hd => rfl); (case hg => rfl); (case hr => first | (go_simp; done) | (go_simp; rfl))
              intro gb322 hg w40 hbox hb
              have n0_ := Aside0.mk (Kd.V_below (Kd.V_elderB (by (with_reducible repeat (first | apply Kd.V_alloc | apply Kd.V_drewN | apply Kd.V_drew)); exact HO_302000.out) gb322 (Nat.le_of_eq hg.symm)) hb)
              have n1_ := Aside0.mk (blk_below (g:=gb301) (o:=.cells #[.slice A0_0 l0_0.length c0_0,.int .i64 a0_1] 28 (0,0)) (kA BK301.out) hb)
              have n2_ := Aside0.mk (blk_below (g:=gb302) (o:=.cells #[.slice none 0 0,.int .i64 0] 28 (0,0)) (kA BK302.out) hb)
              have n3_ := Aside0.mk (blk_below (g:=gb321) (o:=.cells #[.slice none 0 0,.int .i64 0] 28 (0,0)) (kA BK321.out) hb)
              have n4_ := Aside0.mk (below_step bA hb)
              have n5_ := Aside0.mk (hbox)
              have n6_ := Aside0.mk ((by rw [hg]; exact (below_size bA) : w.heap.size ≤ gb322))
              have n7_ := Aside0.mk ((by rw [hg]; exact (below_size bA) : w.heap.size ≤ gb322))
              have n8_ := Aside0.mk ((by rw [hg]; exact Nat.ne_of_lt (blk_lt (g:=gb301) (o:=.cells #[.slice A0_0 l0_0.length c0_0,.int .i64 a0_1] 28 (0,0)) (kA BK301.out)) : gb301 ≠ gb322))
              have n9_ := Aside0.mk ((by rw [hg]; exact Nat.ne_of_gt (blk_lt (g:=gb301) (o:=.cells #[.slice A0_0 l0_0.length c0_0,.int .i64 a0_1] 28 (0,0)) (kA BK301.out)) : gb322 ≠ gb301))
              have n10_ := Aside0.mk ((by rw [hg]; exact Nat.ne_of_lt (blk_lt (g:=gb302) (o:=.cells #[.slice none 0 0,.int .i64 0] 28 (0,0)) (kA BK302.out)) : gb302 ≠ gb322))
              have n11_ := Aside0.mk ((by rw [hg]; exact Nat.ne_of_gt (blk_lt (g:=gb302) (o:=.cells #[.slice none 0 0,.int .i64 0] 28 (0,0)) (kA BK302.out)) : gb322 ≠ gb302))
              have n12_ := Aside0.mk ((by rw [hg]; exact Nat.ne_of_lt (blk_lt (g:=gb321) (o:=.cells #[.slice none 0 0,.int .i64 0] 28 (0,0)) (kA BK321.out)) : gb321 ≠ gb322))
              have n13_ := Aside0.mk ((by rw [hg]; exact Nat.ne_of_gt (blk_lt (g:=gb321) (o:=.cells #[.slice none 0 0,.int .i64 0] 28 (0,0)) (kA BK321.out)) : gb322 ≠ gb321))
              clear HO_302000
              clear BK301
              clear BK302
              clear BK321
              clear HB
              have HO_302000 := n0_
              have BK301 := n1_
              have BK302 := n2_
              have BK321 := n3_
              have HB := n4_
              have BK322 := n5_
              have GW322 := n6_
              have GE322 := n7_
              have NB301_322 := n8_
              have NB322_301 := n9_
              have NB302_322 := n10_
              have NB322_302 := n11_
              have NB321_322 := n12_
              have NB322_321 := n13_
              clear n0_ n1_ n2_ n3_ n4_ n5_ n6_ n7_ n8_ n9_ n10_ n11_ n12_ n13_
              clear hb hbox hg
              refine hK.out _ _ ⟨(blk_cell BK301.out 0).trans rfl,(blk_cell BK301.out 1).trans rfl⟩ (fun hHeld => ?_)
              clear hK K
              refine norm_ (a':=?_) ?_ ?_
              rotate_left
              ·show Act.put _ (some 13) _ = _
               simp only [Act.put,setIfInBounds_toArray,set_cons_zero,set_cons_succ,i64_w,i32_w]
               rfl
              exact norm_ (by first | (simp only [putAll,Act.put,setIfInBounds_toArray,set_cons_zero,set_cons_succ]; done) | (simp only [putAll,Act.put,setIfInBounds_toArray,set_cons_zero,set_cons_succ]; rfl)) (hJ7_8 (gb321,gb322) _ ⟨hHeld,(by (with_reducible repeat (first | apply Kd.V_alloc | apply Kd.V_drewN | apply Kd.V_drew)); exact Kd.V_mono HO_302000.out (fun _ hk => ⟨hk.1.1,⟨hk.1.2.1,⟨hk.1.2.2.1,⟨hk.1.2.2.2,hk.2⟩⟩⟩⟩)),(kA BK301.out),(kA BK302.out),(kA BK321.out),(kA BK322.out),GW321.out,GE321.out,NB301_321.out,NB321_301.out,NB302_321.out,NB321_302.out,NB322_321.out,NB321_322.out,GW322.out,GE322.out,NB301_322.out,NB322_301.out,NB302_322.out,NB322_302.out,bA⟩)
           ·skip
            rintro v318 w39 ⟨hS_,h0_,h1_,h2_,h3_,h4_⟩
            have n0_ : Aside0 (Kd.R k71 71 w39 w.heap.size (fun k_ => (w.heap.size ≤ k_)) v318 t317) := ⟨h0_⟩
            have n1_ : Aside0 (Kd.V k71 71 w39 w.heap.size (fun k_ => (P0_0_ k_ ∨ w.heap.size ≤ k_) ∧ some k_ ≠ (v318 : Value).ownBlock ∧ k_ ≠ gb301 ∧ k_ ≠ gb302) (.slice A0_0 l0_0.length c0_0) l0_0) := ⟨h1_⟩
            have n2_ : Aside0 (w39.heap[gb301]? = some (.cells #[.slice A0_0 l0_0.length c0_0,.int .i64 a0_1] 28 (0,0))) := ⟨h2_⟩
            have n3_ : Aside0 (w39.heap[gb302]? = some (.cells #[.slice none 0 0,.int .i64 0] 28 (0,0))) := ⟨h3_⟩
            have n4_ : Aside0 (Below w.heap.size w w39) := ⟨h4_⟩
            clear HO_302000
            clear BK301
            clear BK302
            clear HB
            clear h0_ h1_ h2_ h3_ h4_
            have HO319 := n0_
            have HO_302000 := n1_
            have BK301 := n2_
            have BK302 := n3_
            have HB := n4_
            clear n0_ n1_ n2_ n3_ n4_
            have hHeld : w39.cell? ⟨gb301,0,none⟩ = some (.slice A0_0 l0_0.length c0_0) ∧ w39.cell? ⟨gb301,1,none⟩ = some (.int .i64 a0_1) := hS_
            refine norm_ (a':=?_) ?_ ?_
            rotate_left
            ·simp only [putAll,Act.put,setIfInBounds_toArray,set_cons_zero,set_cons_succ]
             rfl
            refine two_ (i:=7) (j:=8) (Ni := some 12) (Nj := some 13) (bm 11 255) (bm 11 383) rfl rfl rfl rfl (two_of HT_.out (by kernel_rfl)) (by decide) (by decide) (fun K hK => ?_) (fun K hK => ?_)
            ·skip
             refine box_step ?hg (N:=12) ?hd (cs := #[.slice none 0 0,.int .i64 0]) (t:=28) ?hr ?_; (case hd => rfl); (case hg => rfl); (case hr => first | (go_simp; done) | (go_simp; rfl))
             intro gb321 hg w40 hbox hb
             have n0_ := Aside0.mk (Kd.V_below (Kd.V_elderB (by (with_reducible repeat (first | apply Kd.V_alloc | apply Kd.V_drewN | apply Kd.V_drew)); exact HO_302000.out) gb321 (Nat.le_of_eq hg.symm)) hb)
             have n1_ := Aside0.mk (Kd.R_below (rA HO319.out) hb)
             have n2_ := Aside0.mk (blk_below (g:=gb301) (o:=.cells #[.slice A0_0 l0_0.length c0_0,.int .i64 a0_1] 28 (0,0)) (kA BK301.out) hb)
             have n3_ := Aside0.mk (blk_below (g:=gb302) (o:=.cells #[.slice none 0 0,.int .i64 0] 28 (0,0)) (kA BK302.out) hb)
             have n4_ := Aside0.mk (below_step bA hb)
             have n5_ := Aside0.mk (hbox)
             have n6_ := Aside0.mk ((by rw [hg]; exact (below_size bA) : w.heap.size ≤ gb321))
             have n7_ := Aside0.mk ((by rw [hg]; exact (below_size bA) : w.heap.size ≤ gb321))
             have n8_ := Aside0.mk ((by rw [hg]; exact Nat.ne_of_lt (blk_lt (g:=gb301) (o:=.cells #[.slice A0_0 l0_0.length c0_0,.int .i64 a0_1] 28 (0,0)) (kA BK301.out)) : gb301 ≠ gb321))
             have n9_ := Aside0.mk ((by rw [hg]; exact Nat.ne_of_gt (blk_lt (g:=gb301) (o:=.cells #[.slice A0_0 l0_0.length c0_0,.int .i64 a0_1] 28 (0,0)) (kA BK301.out)) : gb321 ≠ gb301))
             have n10_ := Aside0.mk ((by rw [hg]; exact Nat.ne_of_lt (blk_lt (g:=gb302) (o:=.cells #[.slice none 0 0,.int .i64 0] 28 (0,0)) (kA BK302.out)) : gb302 ≠ gb321))
             have n11_ := Aside0.mk ((by rw [hg]; exact Nat.ne_of_gt (blk_lt (g:=gb302) (o:=.cells #[.slice none 0 0,.int .i64 0] 28 (0,0)) (kA BK302.out)) : gb321 ≠ gb302))
             clear HO_302000
             clear HO319
             clear BK301
             clear BK302
             clear HB
             have HO_302000 := n0_
             have HO319 := n1_
             have BK301 := n2_
             have BK302 := n3_
             have HB := n4_
             have BK321 := n5_
             have GW321 := n6_
             have GE321 := n7_
             have NB301_321 := n8_
             have NB321_301 := n9_
             have NB302_321 := n10_
             have NB321_302 := n11_
             clear n0_ n1_ n2_ n3_ n4_ n5_ n6_ n7_ n8_ n9_ n10_ n11_
             clear hb hbox hg
             refine hK.out _ _ ⟨(blk_cell BK301.out 0).trans rfl,(blk_cell BK301.out 1).trans rfl⟩ (fun hHeld => ?_)
             clear hK K
             refine norm_ (a':=?_) ?_ ?_
             rotate_left
             ·show Act.put _ (some 12) _ = _
              simp only [Act.put,setIfInBounds_toArray,set_cons_zero,set_cons_succ,i64_w,i32_w]
              rfl
             exact norm_ (by first | (simp only [putAll,Act.put,setIfInBounds_toArray,set_cons_zero,set_cons_succ]; done) | (simp only [putAll,Act.put,setIfInBounds_toArray,set_cons_zero,set_cons_succ]; rfl)) (hJ1_7 (v318,gb321) _ ⟨hHeld,(rA HO319.out),(by (with_reducible repeat (first | apply Kd.V_alloc | apply Kd.V_drewN | apply Kd.V_drew)); exact Kd.V_mono HO_302000.out (fun _ hk => ⟨hk.1.1,⟨hk.1.2.1,⟨hk.1.2.2.1,⟨hk.1.2.2.2,hk.2⟩⟩⟩⟩)),(kA BK301.out),(kA BK302.out),(kA BK321.out),GW321.out,GE321.out,NB301_321.out,NB321_301.out,NB302_321.out,NB321_302.out,bA⟩)
            ·skip
             refine box_step ?hg (N:=13) ?hd (cs := #[.string (⟨#[]⟩ : ByteArray),.int .i64 0,.string (⟨#[]⟩ : ByteArray)]) (t:=71) ?hr ?_; (case hd => rfl); (case hg => rfl); (case hr => first | (go_simp; done) | (go_simp; rfl))
             intro gb322 hg w40 hbox hb
             have n0_ := Aside0.mk (Kd.V_below (Kd.V_elderB (by (with_reducible repeat (first | apply Kd.V_alloc | apply Kd.V_drewN | apply Kd.V_drew)); exact HO_302000.out) gb322 (Nat.le_of_eq hg.symm)) hb)
             have n1_ := Aside0.mk (Kd.R_below (Kd.R_elderB (rA HO319.out) gb322 (Nat.le_of_eq hg.symm)) hb)
             have n2_ := Aside0.mk (blk_below (g:=gb301) (o:=.cells #[.slice A0_0 l0_0.length c0_0,.int .i64 a0_1] 28 (0,0)) (kA BK301.out) hb)
             have n3_ := Aside0.mk (blk_below (g:=gb302) (o:=.cells #[.slice none 0 0,.int .i64 0] 28 (0,0)) (kA BK302.out) hb)
             have n4_ := Aside0.mk (below_step bA hb)
             have n5_ := Aside0.mk (hbox)
             have n6_ := Aside0.mk ((by rw [hg]; exact (below_size bA) : w.heap.size ≤ gb322))
             have n7_ := Aside0.mk ((by rw [hg]; exact (below_size bA) : w.heap.size ≤ gb322))
             have n8_ := Aside0.mk ((by rw [hg]; exact Nat.ne_of_lt (blk_lt (g:=gb301) (o:=.cells #[.slice A0_0 l0_0.length c0_0,.int .i64 a0_1] 28 (0,0)) (kA BK301.out)) : gb301 ≠ gb322))
             have n9_ := Aside0.mk ((by rw [hg]; exact Nat.ne_of_gt (blk_lt (g:=gb301) (o:=.cells #[.slice A0_0 l0_0.length c0_0,.int .i64 a0_1] 28 (0,0)) (kA BK301.out)) : gb322 ≠ gb301))
             have n10_ := Aside0.mk ((by rw [hg]; exact Nat.ne_of_lt (blk_lt (g:=gb302) (o:=.cells #[.slice none 0 0,.int .i64 0] 28 (0,0)) (kA BK302.out)) : gb302 ≠ gb322))
             have n11_ := Aside0.mk ((by rw [hg]; exact Nat.ne_of_gt (blk_lt (g:=gb302) (o:=.cells #[.slice none 0 0,.int .i64 0] 28 (0,0)) (kA BK302.out)) : gb322 ≠ gb302))
             clear HO_302000
             clear HO319
             clear BK301
             clear BK302
             clear HB
             have HO_302000 := n0_
             have HO319 := n1_
             have BK301 := n2_
             have BK302 := n3_
             have HB := n4_
             have BK322 := n5_
             have GW322 := n6_
             have GE322 := n7_
             have NB301_322 := n8_
             have NB322_301 := n9_
             have NB302_322 := n10_
             have NB322_302 := n11_
             clear n0_ n1_ n2_ n3_ n4_ n5_ n6_ n7_ n8_ n9_ n10_ n11_
             clear hb hbox hg
             refine hK.out _ _ ⟨(blk_cell BK301.out 0).trans rfl,(blk_cell BK301.out 1).trans rfl⟩ (fun hHeld => ?_)
             clear hK K
             refine norm_ (a':=?_) ?_ ?_
             rotate_left
             ·show Act.put _ (some 13) _ = _
              simp only [Act.put,setIfInBounds_toArray,set_cons_zero,set_cons_succ,i64_w,i32_w]
              rfl
             exact norm_ (by first | (simp only [putAll,Act.put,setIfInBounds_toArray,set_cons_zero,set_cons_succ]; done) | (simp only [putAll,Act.put,setIfInBounds_toArray,set_cons_zero,set_cons_succ]; rfl)) (hJ1_8 (v318,gb322) _ ⟨hHeld,(rA HO319.out),(by (with_reducible repeat (first | apply Kd.V_alloc | apply Kd.V_drewN | apply Kd.V_drew)); exact Kd.V_mono HO_302000.out (fun _ hk => ⟨hk.1.1,⟨hk.1.2.1,⟨hk.1.2.2.1,⟨hk.1.2.2.2,hk.2⟩⟩⟩⟩)),(kA BK301.out),(kA BK302.out),(kA BK322.out),GW322.out,GE322.out,NB301_322.out,NB322_301.out,NB302_322.out,NB322_302.out,bA⟩)
          ·skip
           rintro ⟨gb321,gb322⟩ w40 ⟨hS_,h0_,h1_,h2_,h3_,h4_,h5_,h6_,h7_,h8_,h9_,h10_,h11_,h12_,h13_,h14_,h15_,h16_,h17_,h18_,h19_⟩
           have n0_ : Aside0 (Kd.V k71 71 w40 w.heap.size (fun k_ => (P0_0_ k_ ∨ w.heap.size ≤ k_) ∧ k_ ≠ gb301 ∧ k_ ≠ gb302 ∧ k_ ≠ gb321 ∧ k_ ≠ gb322) (.slice A0_0 l0_0.length c0_0) l0_0) := ⟨h0_⟩
           have n1_ : Aside0 (w40.heap[gb301]? = some (.cells #[.slice A0_0 l0_0.length c0_0,.int .i64 a0_1] 28 (0,0))) := ⟨h1_⟩
           have n2_ : Aside0 (w40.heap[gb302]? = some (.cells #[.slice none 0 0,.int .i64 0] 28 (0,0))) := ⟨h2_⟩
           have n3_ : Aside0 (w40.heap[gb321]? = some (.cells #[.slice none 0 0,.int .i64 0] 28 (0,0))) := ⟨h3_⟩
           have n4_ : Aside0 (w40.heap[gb322]? = some (.cells #[.string (⟨#[]⟩ : ByteArray),.int .i64 0,.string (⟨#[]⟩ : ByteArray)] 71 (0,0))) := ⟨h4_⟩
           have n5_ : Aside0 (w.heap.size ≤ gb321) := ⟨h5_⟩
           have n6_ : Aside0 (w.heap.size ≤ gb321) := ⟨h6_⟩
           have n7_ : Aside0 (gb301 ≠ gb321) := ⟨h7_⟩
           have n8_ : Aside0 (gb321 ≠ gb301) := ⟨h8_⟩
           have n9_ : Aside0 (gb302 ≠ gb321) := ⟨h9_⟩
           have n10_ : Aside0 (gb321 ≠ gb302) := ⟨h10_⟩
           have n11_ : Aside0 (gb322 ≠ gb321) := ⟨h11_⟩
           have n12_ : Aside0 (gb321 ≠ gb322) := ⟨h12_⟩
           have n13_ : Aside0 (w.heap.size ≤ gb322) := ⟨h13_⟩
           have n14_ : Aside0 (w.heap.size ≤ gb322) := ⟨h14_⟩
           have n15_ : Aside0 (gb301 ≠ gb322) := ⟨h15_⟩
           have n16_ : Aside0 (gb322 ≠ gb301) := ⟨h16_⟩
           have n17_ : Aside0 (gb302 ≠ gb322) := ⟨h17_⟩
           have n18_ : Aside0 (gb322 ≠ gb302) := ⟨h18_⟩
           have n19_ : Aside0 (Below w.heap.size w w40) := ⟨h19_⟩
           clear HO_302000
           clear BK301
           clear BK302
           clear HB
           clear h0_ h1_ h2_ h3_ h4_ h5_ h6_ h7_ h8_ h9_ h10_ h11_ h12_ h13_ h14_ h15_ h16_ h17_ h18_ h19_
           have HO_302000 := n0_
           have BK301 := n1_
           have BK302 := n2_
           have BK321 := n3_
           have BK322 := n4_
           have GW321 := n5_
           have GE321 := n6_
           have NB301_321 := n7_
           have NB321_301 := n8_
           have NB302_321 := n9_
           have NB321_302 := n10_
           have NB322_321 := n11_
           have NB321_322 := n12_
           have GW322 := n13_
           have GE322 := n14_
           have NB301_322 := n15_
           have NB322_301 := n16_
           have NB302_322 := n17_
           have NB322_302 := n18_
           have HB := n19_
           clear n0_ n1_ n2_ n3_ n4_ n5_ n6_ n7_ n8_ n9_ n10_ n11_ n12_ n13_ n14_ n15_ n16_ n17_ n18_ n19_
           have hHeld : w40.cell? ⟨gb301,0,none⟩ = some (.slice A0_0 l0_0.length c0_0) ∧ w40.cell? ⟨gb301,1,none⟩ = some (.int .i64 a0_1) := hS_
           refine norm_ (a':=?_) ?_ ?_
           rotate_left
           ·simp only [putAll,Act.put,setIfInBounds_toArray,set_cons_zero,set_cons_succ]
            rfl
           refine one_ (i:=1) (N:=some 47) (bm 11 511) rfl rfl (one_of HT_.out (by kernel_rfl)) (by decide) (fun K hK => ?_)
           refine goes_ Try.func32 (by kernel_rfl) rfl #[.agg #[.slice A0_0 l0_0.length c0_0,.int .i64 a0_1]] (by rfl) rfl rfl mA ?_
           with_reducible refine (impl_Store_copied.calls _ _ l0_0 a0_1 t317 t320 _ ?side1 ?side2 A32.out).mono ?_
           (case side1 => repeat (first | exact (Kd.V_reads' HO_302000.out).2.2 | (with_reducible refine Kd.C_alloc ?_ _) | (with_reducible refine Kd.C_drewN ?_ _) | (with_reducible refine Kd.C_drew ?_)))
           (case side2 => exact (Kd.V_reads' HO_302000.out).2.1)
           rintro e w41 ⟨v318,rfl,ho0,hb⟩
           refine ⟨_,rfl,?_⟩
           have n0_ := Aside0.mk (Kd.V_elder' (by (with_reducible repeat (first | apply Kd.V_alloc | apply Kd.V_drewN | apply Kd.V_drew)); exact HO_302000.out) (Kd.R_base ho0) hb)
           have n1_ := Aside0.mk (Kd.R_lower (Kd.R_newB (Kd.R_newM (M:=fun k_ => (w.heap.size ≤ k_)) ho0 (below_size bA) (fun k_ h_ => h_)) (g:=gb322) (o:=.cells #[.string (⟨#[]⟩ : ByteArray),.int .i64 0,.string (⟨#[]⟩ : ByteArray)] 71 (0,0)) (kA BK322.out)) (below_size bA))
           have n2_ := Aside0.mk (blk_below (g:=gb301) (o:=.cells #[.slice A0_0 l0_0.length c0_0,.int .i64 a0_1] 28 (0,0)) (kA BK301.out) hb)
           have n3_ := Aside0.mk (blk_below (g:=gb302) (o:=.cells #[.slice none 0 0,.int .i64 0] 28 (0,0)) (kA BK302.out) hb)
           have n4_ := Aside0.mk (blk_below (g:=gb321) (o:=.cells #[.slice none 0 0,.int .i64 0] 28 (0,0)) (kA BK321.out) hb)
           have n5_ := Aside0.mk (blk_below (g:=gb322) (o:=.cells #[.string (⟨#[]⟩ : ByteArray),.int .i64 0,.string (⟨#[]⟩ : ByteArray)] 71 (0,0)) (kA BK322.out) hb)
           have n6_ := Aside0.mk (below_step bA hb)
           clear HO_302000
           clear BK301
           clear BK302
           clear BK321
           clear BK322
           clear HB
           have HO_302000 := n0_
           have HO319 := n1_
           have BK301 := n2_
           have BK302 := n3_
           have BK321 := n4_
           have BK322 := n5_
           have HB := n6_
           clear n0_ n1_ n2_ n3_ n4_ n5_ n6_
           (try clear hb)
           (try clear hb2)
           (try clear hk)
           (try clear hi)
           (try clear ho0)
           refine hK.out _ _ ⟨(blk_cell BK301.out 0).trans rfl,(blk_cell BK301.out 1).trans rfl⟩ (fun hHeld => ?_)
           clear hK K
           refine norm_ (a':=?_) ?_ ?_
           rotate_left
           ·show Act.put _ (some 47) _ = _
            simp only [Act.put,setIfInBounds_toArray,set_cons_zero,set_cons_succ,i64_w,i32_w]
            rfl
           exact norm_ (by first | (simp only [putAll,Act.put,setIfInBounds_toArray,set_cons_zero,set_cons_succ]; done) | (simp only [putAll,Act.put,setIfInBounds_toArray,set_cons_zero,set_cons_succ]; rfl)) (hJ1_7_8 (v318,gb321,gb322) _ ⟨hHeld,(by (with_reducible repeat (first | apply Kd.R_alloc | apply Kd.R_drewN | apply Kd.R_drew)); exact Kd.R_mono HO319.out (fun _ hk => ⟨hk.1.1,hk.2⟩)),(by (with_reducible repeat (first | apply Kd.V_alloc | apply Kd.V_drewN | apply Kd.V_drew)); exact Kd.V_mono HO_302000.out (fun _ hk => ⟨hk.1.1,⟨hk.2,⟨hk.1.2.1,⟨hk.1.2.2.1,⟨hk.1.2.2.2.1,hk.1.2.2.2.2⟩⟩⟩⟩⟩)),(kA BK301.out),(kA BK302.out),(kA BK321.out),(kA BK322.out),GW321.out,GE321.out,NB301_321.out,NB321_301.out,NB302_321.out,NB321_302.out,NB322_321.out,NB321_322.out,GW322.out,GE322.out,NB301_322.out,NB322_301.out,NB302_322.out,NB322_302.out,bA⟩)
         ·skip
          rintro ⟨v318,gb322⟩ w40 ⟨hS_,h0_,h1_,h2_,h3_,h4_,h5_,h6_,h7_,h8_,h9_,h10_,h11_⟩
          have n0_ : Aside0 (Kd.R k71 71 w40 w.heap.size (fun k_ => (w.heap.size ≤ k_) ∧ k_ ≠ gb322) v318 t317) := ⟨h0_⟩
          have n1_ : Aside0 (Kd.V k71 71 w40 w.heap.size (fun k_ => (P0_0_ k_ ∨ w.heap.size ≤ k_) ∧ some k_ ≠ (v318 : Value).ownBlock ∧ k_ ≠ gb301 ∧ k_ ≠ gb302 ∧ k_ ≠ gb322) (.slice A0_0 l0_0.length c0_0) l0_0) := ⟨h1_⟩
          have n2_ : Aside0 (w40.heap[gb301]? = some (.cells #[.slice A0_0 l0_0.length c0_0,.int .i64 a0_1] 28 (0,0))) := ⟨h2_⟩
          have n3_ : Aside0 (w40.heap[gb302]? = some (.cells #[.slice none 0 0,.int .i64 0] 28 (0,0))) := ⟨h3_⟩
          have n4_ : Aside0 (w40.heap[gb322]? = some (.cells #[.string (⟨#[]⟩ : ByteArray),.int .i64 0,.string (⟨#[]⟩ : ByteArray)] 71 (0,0))) := ⟨h4_⟩
          have n5_ : Aside0 (w.heap.size ≤ gb322) := ⟨h5_⟩
          have n6_ : Aside0 (w.heap.size ≤ gb322) := ⟨h6_⟩
          have n7_ : Aside0 (gb301 ≠ gb322) := ⟨h7_⟩
          have n8_ : Aside0 (gb322 ≠ gb301) := ⟨h8_⟩
          have n9_ : Aside0 (gb302 ≠ gb322) := ⟨h9_⟩
          have n10_ : Aside0 (gb322 ≠ gb302) := ⟨h10_⟩
          have n11_ : Aside0 (Below w.heap.size w w40) := ⟨h11_⟩
          clear HO_302000
          clear BK301
          clear BK302
          clear HB
          clear h0_ h1_ h2_ h3_ h4_ h5_ h6_ h7_ h8_ h9_ h10_ h11_
          have HO319 := n0_
          have HO_302000 := n1_
          have BK301 := n2_
          have BK302 := n3_
          have BK322 := n4_
          have GW322 := n5_
          have GE322 := n6_
          have NB301_322 := n7_
          have NB322_301 := n8_
          have NB302_322 := n9_
          have NB322_302 := n10_
          have HB := n11_
          clear n0_ n1_ n2_ n3_ n4_ n5_ n6_ n7_ n8_ n9_ n10_ n11_
          have hHeld : w40.cell? ⟨gb301,0,none⟩ = some (.slice A0_0 l0_0.length c0_0) ∧ w40.cell? ⟨gb301,1,none⟩ = some (.int .i64 a0_1) := hS_
          refine norm_ (a':=?_) ?_ ?_
          rotate_left
          ·simp only [putAll,Act.put,setIfInBounds_toArray,set_cons_zero,set_cons_succ]
           rfl
          refine one_ (i:=7) (N:=some 12) (bm 11 511) rfl rfl (one_of HT_.out (by kernel_rfl)) (by decide) (fun K hK => ?_)
          refine box_step ?hg (N:=12) ?hd (cs := #[.slice none 0 0,.int .i64 0]) (t:=28) ?hr ?_; (case hd => rfl); (case hg => rfl); (case hr => first | (go_simp; done) | (go_simp; rfl))
          intro gb321 hg w41 hbox hb
          have n0_ := Aside0.mk (Kd.V_below (Kd.V_elderB (by (with_reducible repeat (first | apply Kd.V_alloc | apply Kd.V_drewN | apply Kd.V_drew)); exact HO_302000.out) gb321 (Nat.le_of_eq hg.symm)) hb)
          have n1_ := Aside0.mk (Kd.R_below (rA HO319.out) hb)
          have n2_ := Aside0.mk (blk_below (g:=gb301) (o:=.cells #[.slice A0_0 l0_0.length c0_0,.int .i64 a0_1] 28 (0,0)) (kA BK301.out) hb)
          have n3_ := Aside0.mk (blk_below (g:=gb302) (o:=.cells #[.slice none 0 0,.int .i64 0] 28 (0,0)) (kA BK302.out) hb)
          have n4_ := Aside0.mk (blk_below (g:=gb322) (o:=.cells #[.string (⟨#[]⟩ : ByteArray),.int .i64 0,.string (⟨#[]⟩ : ByteArray)] 71 (0,0)) (kA BK322.out) hb)
          have n5_ := Aside0.mk (below_step bA hb)
          have n6_ := Aside0.mk (hbox)
          have n7_ := Aside0.mk ((by rw [hg]; exact (below_size bA) : w.heap.size ≤ gb321))
          have n8_ := Aside0.mk ((by rw [hg]; exact (below_size bA) : w.heap.size ≤ gb321))
          have n9_ := Aside0.mk ((by rw [hg]; exact Nat.ne_of_lt (blk_lt (g:=gb301) (o:=.cells #[.slice A0_0 l0_0.length c0_0,.int .i64 a0_1] 28 (0,0)) (kA BK301.out)) : gb301 ≠ gb321))
          have n10_ := Aside0.mk ((by rw [hg]; exact Nat.ne_of_gt (blk_lt (g:=gb301) (o:=.cells #[.slice A0_0 l0_0.length c0_0,.int .i64 a0_1] 28 (0,0)) (kA BK301.out)) : gb321 ≠ gb301))
          have n11_ := Aside0.mk ((by rw [hg]; exact Nat.ne_of_lt (blk_lt (g:=gb302) (o:=.cells #[.slice none 0 0,.int .i64 0] 28 (0,0)) (kA BK302.out)) : gb302 ≠ gb321))
          have n12_ := Aside0.mk ((by rw [hg]; exact Nat.ne_of_gt (blk_lt (g:=gb302) (o:=.cells #[.slice none 0 0,.int .i64 0] 28 (0,0)) (kA BK302.out)) : gb321 ≠ gb302))
          have n13_ := Aside0.mk ((by rw [hg]; exact Nat.ne_of_lt (blk_lt (g:=gb322) (o:=.cells #[.string (⟨#[]⟩ : ByteArray),.int .i64 0,.string (⟨#[]⟩ : ByteArray)] 71 (0,0)) (kA BK322.out)) : gb322 ≠ gb321))
          have n14_ := Aside0.mk ((by rw [hg]; exact Nat.ne_of_gt (blk_lt (g:=gb322) (o:=.cells #[.string (⟨#[]⟩ : ByteArray),.int .i64 0,.string (⟨#[]⟩ : ByteArray)] 71 (0,0)) (kA BK322.out)) : gb321 ≠ gb322))
          clear HO_302000
          clear HO319
          clear BK301
          clear BK302
          clear BK322
          clear HB
          have HO_302000 := n0_
          have HO319 := n1_
          have BK301 := n2_
          have BK302 := n3_
          have BK322 := n4_
          have HB := n5_
          have BK321 := n6_
          have GW321 := n7_
          have GE321 := n8_
          have NB301_321 := n9_
          have NB321_301 := n10_
          have NB302_321 := n11_
          have NB321_302 := n12_
          have NB322_321 := n13_
          have NB321_322 := n14_
          clear n0_ n1_ n2_ n3_ n4_ n5_ n6_ n7_ n8_ n9_ n10_ n11_ n12_ n13_ n14_
          clear hb hbox hg
          refine hK.out _ _ ⟨(blk_cell BK301.out 0).trans rfl,(blk_cell BK301.out 1).trans rfl⟩ (fun hHeld => ?_)
          clear hK K
          refine norm_ (a':=?_) ?_ ?_
          rotate_left
          ·show Act.put _ (some 12) _ = _
           simp only [Act.put,setIfInBounds_toArray,set_cons_zero,set_cons_succ,i64_w,i32_w]
           rfl
          exact norm_ (by first | (simp only [putAll,Act.put,setIfInBounds_toArray,set_cons_zero,set_cons_succ]; done) | (simp only [putAll,Act.put,setIfInBounds_toArray,set_cons_zero,set_cons_succ]; rfl)) (hJ1_7_8 (v318,gb321,gb322) _ ⟨hHeld,(rA HO319.out),(by (with_reducible repeat (first | apply Kd.V_alloc | apply Kd.V_drewN | apply Kd.V_drew)); exact Kd.V_mono HO_302000.out (fun _ hk => ⟨hk.1.1,⟨hk.1.2.1,⟨hk.1.2.2.1,⟨hk.1.2.2.2.1,⟨hk.2,hk.1.2.2.2.2⟩⟩⟩⟩⟩)),(kA BK301.out),(kA BK302.out),(kA BK321.out),(kA BK322.out),GW321.out,GE321.out,NB301_321.out,NB321_301.out,NB302_321.out,NB321_302.out,NB322_321.out,NB321_322.out,GW322.out,GE322.out,NB301_322.out,NB322_301.out,NB302_322.out,NB322_302.out,bA⟩)
        ·skip
         rintro ⟨v318,gb321⟩ w40 ⟨hS_,h0_,h1_,h2_,h3_,h4_,h5_,h6_,h7_,h8_,h9_,h10_,h11_⟩
         have n0_ : Aside0 (Kd.R k71 71 w40 w.heap.size (fun k_ => (w.heap.size ≤ k_)) v318 t317) := ⟨h0_⟩
         have n1_ : Aside0 (Kd.V k71 71 w40 w.heap.size (fun k_ => (P0_0_ k_ ∨ w.heap.size ≤ k_) ∧ some k_ ≠ (v318 : Value).ownBlock ∧ k_ ≠ gb301 ∧ k_ ≠ gb302 ∧ k_ ≠ gb321) (.slice A0_0 l0_0.length c0_0) l0_0) := ⟨h1_⟩
         have n2_ : Aside0 (w40.heap[gb301]? = some (.cells #[.slice A0_0 l0_0.length c0_0,.int .i64 a0_1] 28 (0,0))) := ⟨h2_⟩
         have n3_ : Aside0 (w40.heap[gb302]? = some (.cells #[.slice none 0 0,.int .i64 0] 28 (0,0))) := ⟨h3_⟩
         have n4_ : Aside0 (w40.heap[gb321]? = some (.cells #[.slice none 0 0,.int .i64 0] 28 (0,0))) := ⟨h4_⟩
         have n5_ : Aside0 (w.heap.size ≤ gb321) := ⟨h5_⟩
         have n6_ : Aside0 (w.heap.size ≤ gb321) := ⟨h6_⟩
         have n7_ : Aside0 (gb301 ≠ gb321) := ⟨h7_⟩
         have n8_ : Aside0 (gb321 ≠ gb301) := ⟨h8_⟩
         have n9_ : Aside0 (gb302 ≠ gb321) := ⟨h9_⟩
         have n10_ : Aside0 (gb321 ≠ gb302) := ⟨h10_⟩
         have n11_ : Aside0 (Below w.heap.size w w40) := ⟨h11_⟩
         clear HO_302000
         clear BK301
         clear BK302
         clear HB
         clear h0_ h1_ h2_ h3_ h4_ h5_ h6_ h7_ h8_ h9_ h10_ h11_
         have HO319 := n0_
         have HO_302000 := n1_
         have BK301 := n2_
         have BK302 := n3_
         have BK321 := n4_
         have GW321 := n5_
         have GE321 := n6_
         have NB301_321 := n7_
         have NB321_301 := n8_
         have NB302_321 := n9_
         have NB321_302 := n10_
         have HB := n11_
         clear n0_ n1_ n2_ n3_ n4_ n5_ n6_ n7_ n8_ n9_ n10_ n11_
         have hHeld : w40.cell? ⟨gb301,0,none⟩ = some (.slice A0_0 l0_0.length c0_0) ∧ w40.cell? ⟨gb301,1,none⟩ = some (.int .i64 a0_1) := hS_
         refine norm_ (a':=?_) ?_ ?_
         rotate_left
         ·simp only [putAll,Act.put,setIfInBounds_toArray,set_cons_zero,set_cons_succ]
          rfl
         refine one_ (i:=8) (N:=some 13) (bm 11 511) rfl rfl (one_of HT_.out (by kernel_rfl)) (by decide) (fun K hK => ?_)
         refine box_step ?hg (N:=13) ?hd (cs := #[.string (⟨#[]⟩ : ByteArray),.int .i64 0,.string (⟨#[]⟩ : ByteArray)]) (t:=71) ?hr ?_; (case hd => rfl); (case hg => rfl); (case hr => first | (go_simp; done) | (go_simp; rfl))
         intro gb322 hg w41 hbox hb
         have n0_ := Aside0.mk (Kd.V_below (Kd.V_elderB (by (with_reducible repeat (first | apply Kd.V_alloc | apply Kd.V_drewN | apply Kd.V_drew)); exact HO_302000.out) gb322 (Nat.le_of_eq hg.symm)) hb)
         have n1_ := Aside0.mk (Kd.R_below (Kd.R_elderB (rA HO319.out) gb322 (Nat.le_of_eq hg.symm)) hb)
         have n2_ := Aside0.mk (blk_below (g:=gb301) (o:=.cells #[.slice A0_0 l0_0.length c0_0,.int .i64 a0_1] 28 (0,0)) (kA BK301.out) hb)
         have n3_ := Aside0.mk (blk_below (g:=gb302) (o:=.cells #[.slice none 0 0,.int .i64 0] 28 (0,0)) (kA BK302.out) hb)
         have n4_ := Aside0.mk (blk_below (g:=gb321) (o:=.cells #[.slice none 0 0,.int .i64 0] 28 (0,0)) (kA BK321.out) hb)
         have n5_ := Aside0.mk (below_step bA hb)
         have n6_ := Aside0.mk (hbox)
         have n7_ := Aside0.mk ((by rw [hg]; exact (below_size bA) : w.heap.size ≤ gb322))
         have n8_ := Aside0.mk ((by rw [hg]; exact (below_size bA) : w.heap.size ≤ gb322))
         have n9_ := Aside0.mk ((by rw [hg]; exact Nat.ne_of_lt (blk_lt (g:=gb301) (o:=.cells #[.slice A0_0 l0_0.length c0_0,.int .i64 a0_1] 28 (0,0)) (kA BK301.out)) : gb301 ≠ gb322))
         have n10_ := Aside0.mk ((by rw [hg]; exact Nat.ne_of_gt (blk_lt (g:=gb301) (o:=.cells #[.slice A0_0 l0_0.length c0_0,.int .i64 a0_1] 28 (0,0)) (kA BK301.out)) : gb322 ≠ gb301))
         have n11_ := Aside0.mk ((by rw [hg]; exact Nat.ne_of_lt (blk_lt (g:=gb302) (o:=.cells #[.slice none 0 0,.int .i64 0] 28 (0,0)) (kA BK302.out)) : gb302 ≠ gb322))
         have n12_ := Aside0.mk ((by rw [hg]; exact Nat.ne_of_gt (blk_lt (g:=gb302) (o:=.cells #[.slice none 0 0,.int .i64 0] 28 (0,0)) (kA BK302.out)) : gb322 ≠ gb302))
         have n13_ := Aside0.mk ((by rw [hg]; exact Nat.ne_of_lt (blk_lt (g:=gb321) (o:=.cells #[.slice none 0 0,.int .i64 0] 28 (0,0)) (kA BK321.out)) : gb321 ≠ gb322))
         have n14_ := Aside0.mk ((by rw [hg]; exact Nat.ne_of_gt (blk_lt (g:=gb321) (o:=.cells #[.slice none 0 0,.int .i64 0] 28 (0,0)) (kA BK321.out)) : gb322 ≠ gb321))
         clear HO_302000
         clear HO319
         clear BK301
         clear BK302
         clear BK321
         clear HB
         have HO_302000 := n0_
         have HO319 := n1_
         have BK301 := n2_
         have BK302 := n3_
         have BK321 := n4_
         have HB := n5_
         have BK322 := n6_
         have GW322 := n7_
         have GE322 := n8_
         have NB301_322 := n9_
         have NB322_301 := n10_
         have NB302_322 := n11_
         have NB322_302 := n12_
         have NB321_322 := n13_
         have NB322_321 := n14_
         clear n0_ n1_ n2_ n3_ n4_ n5_ n6_ n7_ n8_ n9_ n10_ n11_ n12_ n13_ n14_
         clear hb hbox hg
         refine hK.out _ _ ⟨(blk_cell BK301.out 0).trans rfl,(blk_cell BK301.out 1).trans rfl⟩ (fun hHeld => ?_)
         clear hK K
         refine norm_ (a':=?_) ?_ ?_
         rotate_left
         ·show Act.put _ (some 13) _ = _
          simp only [Act.put,setIfInBounds_toArray,set_cons_zero,set_cons_succ,i64_w,i32_w]
          rfl
         exact norm_ (by first | (simp only [putAll,Act.put,setIfInBounds_toArray,set_cons_zero,set_cons_succ]; done) | (simp only [putAll,Act.put,setIfInBounds_toArray,set_cons_zero,set_cons_succ]; rfl)) (hJ1_7_8 (v318,gb321,gb322) _ ⟨hHeld,(rA HO319.out),(by (with_reducible repeat (first | apply Kd.V_alloc | apply Kd.V_drewN | apply Kd.V_drew)); exact Kd.V_mono HO_302000.out (fun _ hk => ⟨hk.1.1,⟨hk.1.2.1,⟨hk.1.2.2.1,⟨hk.1.2.2.2.1,⟨hk.1.2.2.2.2,hk.2⟩⟩⟩⟩⟩)),(kA BK301.out),(kA BK302.out),(kA BK321.out),(kA BK322.out),GW321.out,GE321.out,NB301_321.out,NB321_301.out,NB302_321.out,NB321_302.out,NB322_321.out,NB321_322.out,GW322.out,GE322.out,NB301_322.out,NB322_301.out,NB302_322.out,NB322_302.out,bA⟩)
       rintro ⟨v318,gb321,gb322⟩ w41 ⟨hS_,h0_,h1_,h2_,h3_,h4_,h5_,h6_,h7_,h8_,h9_,h10_,h11_,h12_,h13_,h14_,h15_,h16_,h17_,h18_,h19_,h20_⟩
       have n0_ : Aside0 (Kd.R k71 71 w41 w.heap.size (fun k_ => (w.heap.size ≤ k_) ∧ k_ ≠ gb322) v318 t317) := ⟨h0_⟩
       have n1_ : Aside0 (Kd.V k71 71 w41 w.heap.size (fun k_ => (P0_0_ k_ ∨ w.heap.size ≤ k_) ∧ some k_ ≠ (v318 : Value).ownBlock ∧ k_ ≠ gb301 ∧ k_ ≠ gb302 ∧ k_ ≠ gb321 ∧ k_ ≠ gb322) (.slice A0_0 l0_0.length c0_0) l0_0) := ⟨h1_⟩
       have n2_ : Aside0 (w41.heap[gb301]? = some (.cells #[.slice A0_0 l0_0.length c0_0,.int .i64 a0_1] 28 (0,0))) := ⟨h2_⟩
       have n3_ : Aside0 (w41.heap[gb302]? = some (.cells #[.slice none 0 0,.int .i64 0] 28 (0,0))) := ⟨h3_⟩
       have n4_ : Aside0 (w41.heap[gb321]? = some (.cells #[.slice none 0 0,.int .i64 0] 28 (0,0))) := ⟨h4_⟩
       have n5_ : Aside0 (w41.heap[gb322]? = some (.cells #[.string (⟨#[]⟩ : ByteArray),.int .i64 0,.string (⟨#[]⟩ : ByteArray)] 71 (0,0))) := ⟨h5_⟩
       have n6_ : Aside0 (w.heap.size ≤ gb321) := ⟨h6_⟩
       have n7_ : Aside0 (w.heap.size ≤ gb321) := ⟨h7_⟩
       have n8_ : Aside0 (gb301 ≠ gb321) := ⟨h8_⟩
       have n9_ : Aside0 (gb321 ≠ gb301) := ⟨h9_⟩
       have n10_ : Aside0 (gb302 ≠ gb321) := ⟨h10_⟩
       have n11_ : Aside0 (gb321 ≠ gb302) := ⟨h11_⟩
       have n12_ : Aside0 (gb322 ≠ gb321) := ⟨h12_⟩
       have n13_ : Aside0 (gb321 ≠ gb322) := ⟨h13_⟩
       have n14_ : Aside0 (w.heap.size ≤ gb322) := ⟨h14_⟩
       have n15_ : Aside0 (w.heap.size ≤ gb322) := ⟨h15_⟩
       have n16_ : Aside0 (gb301 ≠ gb322) := ⟨h16_⟩
       have n17_ : Aside0 (gb322 ≠ gb301) := ⟨h17_⟩
       have n18_ : Aside0 (gb302 ≠ gb322) := ⟨h18_⟩
       have n19_ : Aside0 (gb322 ≠ gb302) := ⟨h19_⟩
       have n20_ : Aside0 (Below w.heap.size w w41) := ⟨h20_⟩
       clear HO_302000
       clear BK301
       clear BK302
       clear HB
       clear h0_ h1_ h2_ h3_ h4_ h5_ h6_ h7_ h8_ h9_ h10_ h11_ h12_ h13_ h14_ h15_ h16_ h17_ h18_ h19_ h20_
       have HO319 := n0_
       have HO_302000 := n1_
       have BK301 := n2_
       have BK302 := n3_
       have BK321 := n4_
       have BK322 := n5_
       have GW321 := n6_
       have GE321 := n7_
       have NB301_321 := n8_
       have NB321_301 := n9_
       have NB302_321 := n10_
       have NB321_302 := n11_
       have NB322_321 := n12_
       have NB321_322 := n13_
       have GW322 := n14_
       have GE322 := n15_
       have NB301_322 := n16_
       have NB322_301 := n17_
       have NB302_322 := n18_
       have NB322_302 := n19_
       have HB := n20_
       clear n0_ n1_ n2_ n3_ n4_ n5_ n6_ n7_ n8_ n9_ n10_ n11_ n12_ n13_ n14_ n15_ n16_ n17_ n18_ n19_ n20_
       have hHeld : w41.cell? ⟨gb301,0,none⟩ = some (.slice A0_0 l0_0.length c0_0) ∧ w41.cell? ⟨gb301,1,none⟩ = some (.int .i64 a0_1) := hS_
       obtain ⟨Ao42,co42,eo42⟩ := Kd.R_slice HO319.out
       (first | subst eo42 | (injection eo42 with f1_ f2_ f3_; have f4_ := f1_.symm; have f5_ := f3_.symm; clear f1_ f2_ f3_; subst f4_; subst f5_))
       refine norm_ (a':=?_) ?_ ?_
       rotate_left
       ·simp only [putAll,Act.put,setIfInBounds_toArray,set_cons_zero,set_cons_succ]
        rfl
       refine one_ (i:=9) (N:=none) (bm 11 1023) rfl rfl (one_of HT_.out (by kernel_rfl)) (by decide) (fun K hK => ?_)
       have hs43 : w41.cell? ⟨gb321,0,none⟩ = some (.slice none 0 0) := (blk_cell BK321.out 0).trans rfl
       have hfs43 := blk_frozen BK321.out 0
       have hns43_0 := NB301_321.out
       have hns43_1 := NB302_321.out
       have hns43_3 := NB322_321.out
       have hms43_0 := NB321_301.out
       have hms43_1 := NB321_302.out
       have hms43_3 := NB321_322.out
       have hs44 : w41.cell? ⟨gb321,1,none⟩ = some (.int .i64 0) := (blk_cell BK321.out 1).trans rfl
       have hfs44 := blk_frozen BK321.out 1
       have hns44_0 := NB301_321.out
       have hns44_1 := NB302_321.out
       have hns44_3 := NB322_321.out
       have hms44_0 := NB321_301.out
       have hms44_1 := NB321_302.out
       have hms44_3 := NB321_322.out
       refine skip_ (w1 := ?_) (by rfl) rfl ?_ ?_
       rotate_left
       ·go_simp
        rfl
       refine hK.out _ _ ⟨((cell_far (p:=⟨gb321,_,none⟩) NB301_321.out _).trans (((cell_far (p:=⟨gb321,_,none⟩) NB301_321.out _).trans (hHeld.1)))),((cell_far (p:=⟨gb321,_,none⟩) NB301_321.out _).trans (((cell_far (p:=⟨gb321,_,none⟩) NB301_321.out _).trans (hHeld.2))))⟩ (fun hHeld => ?_)
       clear hK K
       refine one_ (i:=10) (N:=none) (bm 11 2047) rfl rfl (one_of HT_.out (by kernel_rfl)) (by decide) (fun K hK => ?_)
       have hs45 : w41.cell? ⟨gb322,0,none⟩ = some (.string (⟨#[]⟩ : ByteArray)) := (blk_cell BK322.out 0).trans rfl
       have hfs45 := blk_frozen BK322.out 0
       have hns45_0 := NB301_322.out
       have hns45_1 := NB302_322.out
       have hns45_2 := NB321_322.out
       have hms45_0 := NB322_301.out
       have hms45_1 := NB322_302.out
       have hms45_2 := NB322_321.out
       have hs46 : w41.cell? ⟨gb322,1,none⟩ = some (.int .i64 0) := (blk_cell BK322.out 1).trans rfl
       have hfs46 := blk_frozen BK322.out 1
       have hns46_0 := NB301_322.out
       have hns46_1 := NB302_322.out
       have hns46_2 := NB321_322.out
       have hms46_0 := NB322_301.out
       have hms46_1 := NB322_302.out
       have hms46_2 := NB322_321.out
       have hs47 : w41.cell? ⟨gb322,2,none⟩ = some (.string (⟨#[]⟩ : ByteArray)) := (blk_cell BK322.out 2).trans rfl
       have hfs47 := blk_frozen BK322.out 2
       have hns47_0 := NB301_322.out
       have hns47_1 := NB302_322.out
       have hns47_2 := NB321_322.out
       have hms47_0 := NB322_301.out
       have hms47_1 := NB322_302.out
       have hms47_2 := NB322_321.out
       refine skip_ (w1 := ?_) (by rfl) rfl ?_ ?_
       rotate_left
       ·go_simp
        rfl
       refine hK.out _ _ ⟨((cell_far (p:=⟨gb322,_,none⟩) NB301_322.out _).trans (((cell_far (p:=⟨gb322,_,none⟩) NB301_322.out _).trans (((cell_far (p:=⟨gb322,_,none⟩) NB301_322.out _).trans (hHeld.1)))))),((cell_far (p:=⟨gb322,_,none⟩) NB301_322.out _).trans (((cell_far (p:=⟨gb322,_,none⟩) NB301_322.out _).trans (((cell_far (p:=⟨gb322,_,none⟩) NB301_322.out _).trans (hHeld.2))))))⟩ (fun hHeld => ?_)
       clear hK K
       refine done_ (done_of HT_.out (by kernel_rfl)) ?_
       have n0_ : Aside0 (Kd.V k71 71 (((((w41.setCell ⟨gb321,0,none⟩ (.slice Ao42 t317.length co42)).setCell ⟨gb321,1,none⟩ (.int .i64 t320)).setCell ⟨gb322,0,none⟩ (.string a1)).setCell ⟨gb322,1,none⟩ (.int .i64 a0_1)).setCell ⟨gb322,2,none⟩ (.string a2)) w.heap.size (fun k_ => (P0_0_ k_ ∨ w.heap.size ≤ k_) ∧ some k_ ≠ (.slice Ao42 t317.length co42 : Value).ownBlock ∧ k_ ≠ gb301 ∧ k_ ≠ gb302 ∧ k_ ≠ gb321 ∧ k_ ≠ gb322) (.slice A0_0 l0_0.length c0_0) l0_0) := ⟨by (with_reducible repeat (first | apply Kd.V_alloc | apply Kd.V_drewN | apply Kd.V_drew)); exact Kd.V_mono (Kd.V_far (p:=⟨gb322,2,none⟩) (Kd.V_far (p:=⟨gb322,1,none⟩) (Kd.V_far (p:=⟨gb322,0,none⟩) (Kd.V_far (p:=⟨gb321,1,none⟩) (Kd.V_far (p:=⟨gb321,0,none⟩) (Kd.V_mono (Kd.V_mono HO_302000.out (fun k_ hk => (⟨hk,hk.2.2.2.2.1⟩ : _ ∧ k_ ≠ gb321))) (fun k_ hk => (⟨hk,hk.1.2.2.2.2.2⟩ : _ ∧ k_ ≠ gb322))) (fun _ hk => hk.1.2) (.slice Ao42 t317.length co42)) (fun _ hk => hk.1.2) (.int .i64 t320)) (fun _ hk => hk.2) (.string a1)) (fun _ hk => hk.2) (.int .i64 a0_1)) (fun _ hk => hk.2) (.string a2)) (fun _ hk => ⟨hk.1.1.1,⟨hk.1.1.2.1,⟨hk.1.1.2.2.1,⟨hk.1.1.2.2.2.1,⟨hk.1.1.2.2.2.2.1,hk.1.1.2.2.2.2.2⟩⟩⟩⟩⟩)⟩
       have n1_ : Aside0 (Kd.R k71 71 (((((w41.setCell ⟨gb321,0,none⟩ (.slice Ao42 t317.length co42)).setCell ⟨gb321,1,none⟩ (.int .i64 t320)).setCell ⟨gb322,0,none⟩ (.string a1)).setCell ⟨gb322,1,none⟩ (.int .i64 a0_1)).setCell ⟨gb322,2,none⟩ (.string a2)) w.heap.size (fun k_ => (w.heap.size ≤ k_) ∧ k_ ≠ gb322) (.slice Ao42 t317.length co42) t317) := ⟨by (with_reducible repeat (first | apply Kd.R_alloc | apply Kd.R_drewN | apply Kd.R_drew)); exact Kd.R_mono (Kd.R_far (p:=⟨gb322,2,none⟩) (Kd.R_far (p:=⟨gb322,1,none⟩) (Kd.R_far (p:=⟨gb322,0,none⟩) (Kd.R_far (p:=⟨gb321,1,none⟩) (Kd.R_far (p:=⟨gb321,0,none⟩) (Kd.R_mono (Kd.R_types HO319.out BK321.out (by decide)) (fun k_ hk => (⟨hk,hk.1.2⟩ : _ ∧ k_ ≠ gb322))) (fun _ hk => hk.1.2) (.slice Ao42 t317.length co42)) (fun _ hk => hk.1.2) (.int .i64 t320)) (fun _ hk => hk.2) (.string a1)) (fun _ hk => hk.2) (.int .i64 a0_1)) (fun _ hk => hk.2) (.string a2)) (fun _ hk => ⟨hk.1.1.1,hk.1.1.2⟩)⟩
       have n2_ : Aside0 ((((((w41.setCell ⟨gb321,0,none⟩ (.slice Ao42 t317.length co42)).setCell ⟨gb321,1,none⟩ (.int .i64 t320)).setCell ⟨gb322,0,none⟩ (.string a1)).setCell ⟨gb322,1,none⟩ (.int .i64 a0_1)).setCell ⟨gb322,2,none⟩ (.string a2)).heap[gb301]? = some (.cells #[.slice A0_0 l0_0.length c0_0,.int .i64 a0_1] 28 (0,0))) := ⟨kF BK301.out⟩
       have n3_ : Aside0 ((((((w41.setCell ⟨gb321,0,none⟩ (.slice Ao42 t317.length co42)).setCell ⟨gb321,1,none⟩ (.int .i64 t320)).setCell ⟨gb322,0,none⟩ (.string a1)).setCell ⟨gb322,1,none⟩ (.int .i64 a0_1)).setCell ⟨gb322,2,none⟩ (.string a2)).heap[gb302]? = some (.cells #[.slice none 0 0,.int .i64 0] 28 (0,0))) := ⟨kF BK302.out⟩
       have n4_ : Aside0 ((((((w41.setCell ⟨gb321,0,none⟩ (.slice Ao42 t317.length co42)).setCell ⟨gb321,1,none⟩ (.int .i64 t320)).setCell ⟨gb322,0,none⟩ (.string a1)).setCell ⟨gb322,1,none⟩ (.int .i64 a0_1)).setCell ⟨gb322,2,none⟩ (.string a2)).heap[gb321]? = some (.cells #[.slice Ao42 t317.length co42,.int .i64 t320] 28 (0,0))) := ⟨by (with_reducible repeat (first | refine blk_drewN ?_ _ | refine blk_drew ?_ | refine blk_alloc ?_ _)); refine blk_far ?_ NB321_322.out _; (with_reducible repeat (first | refine blk_drewN ?_ _ | refine blk_drew ?_ | refine blk_alloc ?_ _)); refine blk_far ?_ NB321_322.out _; (with_reducible repeat (first | refine blk_drewN ?_ _ | refine blk_drew ?_ | refine blk_alloc ?_ _)); refine blk_far ?_ NB321_322.out _; (with_reducible repeat (first | refine blk_drewN ?_ _ | refine blk_drew ?_ | refine blk_alloc ?_ _)); refine blk_put (cs := #[.slice Ao42 t317.length co42,.int .i64 0]) ?_ 1 _ rfl; (with_reducible repeat (first | refine blk_drewN ?_ _ | refine blk_drew ?_ | refine blk_alloc ?_ _)); refine blk_put (cs := #[.slice none 0 0,.int .i64 0]) ?_ 0 _ rfl; (with_reducible repeat (first | refine blk_drewN ?_ _ | refine blk_drew ?_ | refine blk_alloc ?_ _)); exact BK321.out⟩
       have n5_ : Aside0 ((((((w41.setCell ⟨gb321,0,none⟩ (.slice Ao42 t317.length co42)).setCell ⟨gb321,1,none⟩ (.int .i64 t320)).setCell ⟨gb322,0,none⟩ (.string a1)).setCell ⟨gb322,1,none⟩ (.int .i64 a0_1)).setCell ⟨gb322,2,none⟩ (.string a2)).heap[gb322]? = some (.cells #[.string a1,.int .i64 a0_1,.string a2] 71 (0,0))) := ⟨by (with_reducible repeat (first | refine blk_drewN ?_ _ | refine blk_drew ?_ | refine blk_alloc ?_ _)); refine blk_put (cs := #[.string a1,.int .i64 a0_1,.string (⟨#[]⟩ : ByteArray)]) ?_ 2 _ rfl; (with_reducible repeat (first | refine blk_drewN ?_ _ | refine blk_drew ?_ | refine blk_alloc ?_ _)); refine blk_put (cs := #[.string a1,.int .i64 0,.string (⟨#[]⟩ : ByteArray)]) ?_ 1 _ rfl; (with_reducible repeat (first | refine blk_drewN ?_ _ | refine blk_drew ?_ | refine blk_alloc ?_ _)); refine blk_put (cs := #[.string (⟨#[]⟩ : ByteArray),.int .i64 0,.string (⟨#[]⟩ : ByteArray)]) ?_ 0 _ rfl; (with_reducible repeat (first | refine blk_drewN ?_ _ | refine blk_drew ?_ | refine blk_alloc ?_ _)); refine blk_far ?_ NB322_321.out _; (with_reducible repeat (first | refine blk_drewN ?_ _ | refine blk_drew ?_ | refine blk_alloc ?_ _)); refine blk_far ?_ NB322_321.out _; (with_reducible repeat (first | refine blk_drewN ?_ _ | refine blk_drew ?_ | refine blk_alloc ?_ _)); exact BK322.out⟩
       have n6_ : Aside0 (Below w.heap.size w (((((w41.setCell ⟨gb321,0,none⟩ (.slice Ao42 t317.length co42)).setCell ⟨gb321,1,none⟩ (.int .i64 t320)).setCell ⟨gb322,0,none⟩ (.string a1)).setCell ⟨gb322,1,none⟩ (.int .i64 a0_1)).setCell ⟨gb322,2,none⟩ (.string a2))) := ⟨bA⟩
       (try clear HO_302000)
       (try clear HO319)
       (try clear BK301)
       (try clear BK302)
       (try clear BK321)
       (try clear BK322)
       (try clear HB)
       generalize (((((w41.setCell ⟨gb321,0,none⟩ (.slice Ao42 t317.length co42)).setCell ⟨gb321,1,none⟩ (.int .i64 t320)).setCell ⟨gb322,0,none⟩ (.string a1)).setCell ⟨gb322,1,none⟩ (.int .i64 a0_1)).setCell ⟨gb322,2,none⟩ (.string a2)) = w48 at n0_ n1_ n2_ n3_ n4_ n5_ n6_ ⊢
       have HO_302000 := n0_
       have HO319 := n1_
       have BK301 := n2_
       have BK302 := n3_
       have BK321 := n4_
       have BK322 := n5_
       have HB := n6_
       clear n0_ n1_ n2_ n3_ n4_ n5_ n6_
       have hnb49 := NB321_301.out
       have hnc49 := NB301_321.out
       have hnb50 := NB321_302.out
       have hnc50 := NB302_321.out
       have hnb51 := NB321_322.out
       have hnc51 := NB322_321.out
       have hcz52_0 : w48.cell? ⟨gb321,0,none⟩ = some (.slice Ao42 t317.length co42) := (blk_cell BK321.out 0).trans rfl
       have hcz52_1 : w48.cell? ⟨gb321,1,none⟩ = some (.int .i64 t320) := (blk_cell BK321.out 1).trans rfl
       have hfz52_0 := blk_frozen BK321.out 0
       have hfz52_1 := blk_frozen BK321.out 1
       have hnb53 := NB322_301.out
       have hnc53 := NB301_322.out
       have hnb54 := NB322_302.out
       have hnc54 := NB302_322.out
       have hcz55_0 : w48.cell? ⟨gb322,0,none⟩ = some (.string a1) := (blk_cell BK322.out 0).trans rfl
       have hcz55_1 : w48.cell? ⟨gb322,1,none⟩ = some (.int .i64 a0_1) := (blk_cell BK322.out 1).trans rfl
       have hcz55_2 : w48.cell? ⟨gb322,2,none⟩ = some (.string a2) := (blk_cell BK322.out 2).trans rfl
       have hfz55_0 := blk_frozen BK322.out 0
       have hfz55_1 := blk_frozen BK322.out 1
       have hfz55_2 := blk_frozen BK322.out 2
       have p36 : 0 ≤ (t303 : Int) := of_decide_eq_true (by first | (with_reducible assumption) | assumption)
       have q36 : (t303 : Int) < ((t317.length : Int) : Int) := of_decide_eq_true (by first | (with_reducible assumption) | assumption)
       obtain ⟨go36,co36,eo36,gb36,gl36,cl36,HG36⟩ := Kd.R_form HO319.out (by omega)
       (first | cases eo36 | (injection eo36 with ea_ en_ ec_; (first | subst ea_ | (injection ea_ with ea_; subst ea_)); subst ec_; clear en_))
       have GB36 := Aside0.mk gb36
       have GG36 := Aside0.mk HG36
       clear gb36 gl36 HG36
       obtain ⟨ce36,hcl36,hM36,hcc36,hfr36⟩ := Kd.R_elem HO319.out z71 (t303 : Int) p36 q36
       obtain rfl := k71_openM hM36
       have hx36_0 : w48.cell? ⟨go36,(t303 : Int).toNat * 3,none⟩ = some (.string ((rd_T71 t317 t303).f0)) := hcc36 0 _ rfl
       have hx36_1 : w48.cell? ⟨go36,(t303 : Int).toNat * 3 + 1,none⟩ = some (.int .i64 ((rd_T71 t317 t303).f1)) := hcc36 1 _ rfl
       have hx36_2 : w48.cell? ⟨go36,(t303 : Int).toNat * 3 + 2,none⟩ = some (.string ((rd_T71 t317 t303).f2)) := hcc36 2 _ rfl
       have hf36_0 : w48.frozen? ⟨go36,(t303 : Int).toNat * 3,none⟩ = false := hfr36 0
       have hf36_1 : w48.frozen? ⟨go36,(t303 : Int).toNat * 3 + 1,none⟩ = false := hfr36 1
       have hf36_2 : w48.frozen? ⟨go36,(t303 : Int).toNat * 3 + 2,none⟩ = false := hfr36 2
       clear hcl36 hcc36 hfr36 hM36
       replace p36 := eq_true p36
       replace q36 := eq_true q36
       have HX56 := Aside0.mk (show Kd.R k71 71 w48 w.heap.size (fun k_ => (w.heap.size ≤ k_) ∧ k_ ≠ gb322) (.slice (some ⟨go36,0,none⟩) t317.length co42) t317 from (rA HO319.out))
       obtain ⟨ce56,hcl56,hM56,hcc56,hfr56⟩ := Kd.R_elem HX56.out z71 (t303 : Int) (of_decide_eq_true (by first | (with_reducible assumption) | assumption)) (by have h_ : (t303 : Int) < ((t317.length : Int) : Int) := of_decide_eq_true (by first | (with_reducible assumption) | assumption); first | exact h_ | (have e_ := (Kd.R_reads' HO319.out).1; omega) | simpa using h_)
       obtain rfl := k71_openM hM56
       have HP56 := Kd.R_seg HX56.out (t303 : Int) (of_decide_eq_true (by first | (with_reducible assumption) | assumption)) (by have h_ : (t303 : Int) < ((t317.length : Int) : Int) := of_decide_eq_true (by first | (with_reducible assumption) | assumption); first | exact h_ | (have e_ := (Kd.R_reads' HO319.out).1; omega) | simpa using h_) (seg := [.string a1,.int .i64 a0_1,.string a2]) (j:=0) hcl56 hcc56 (show 3 ≤ 3 from by decide) (x':=(⟨a1,a0_1,a2⟩ : S71)) (k71_mkM _ _ _ (⟨a1,a0_1,a2⟩ : S71) ) (fun _ hk => hk)
       have hx56_0 := hcc56 0 _ rfl
       (try simp only [show (k71).sz = 3 from rfl,Nat.mul_one,Nat.add_zero] at hx56_0)
       have hf56_0 := hfr56 0
       (try simp only [show (k71).sz = 3 from rfl,Nat.mul_one,Nat.add_zero] at hf56_0)
       have hx56_1 := hcc56 1 _ rfl
       (try simp only [show (k71).sz = 3 from rfl,Nat.mul_one,Nat.add_zero] at hx56_1)
       have hf56_1 := hfr56 1
       (try simp only [show (k71).sz = 3 from rfl,Nat.mul_one,Nat.add_zero] at hf56_1)
       have hx56_2 := hcc56 2 _ rfl
       (try simp only [show (k71).sz = 3 from rfl,Nat.mul_one,Nat.add_zero] at hx56_2)
       have hf56_2 := hfr56 2
       (try simp only [show (k71).sz = 3 from rfl,Nat.mul_one,Nat.add_zero] at hf56_2)
       clear hcl56 hcc56 hfr56 hM56
       try go_wp2_with (first | ((with_reducible refine gate_store (t:=71) (p:=58) rfl ?_); refine store_event (t:=71) (p:=58) (v:=?vo_w57) (w1 := (((w48.setCell ⟨go36,(t303 : Int).toNat * 3,none⟩ (.string a1)).setCell ⟨go36,(t303 : Int).toNat * 3 + 1,none⟩ (.int .i64 a0_1)).setCell ⟨go36,(t303 : Int).toNat * 3 + 2,none⟩ (.string a2))) ?hg ?ho ?hn ?hr ?_; (case ho => rfl); (case hg => rfl); (case hn => rfl); (case hr => first | (go_simp; done) | (go_simp; rfl)); intro w57 hw; have hg : w48.grownBy w57 (some go36) := (by rw [hw]; exact HP56.2); have hp_ : Kd.R k71 71 w57 w.heap.size (fun k_ => (w.heap.size ≤ k_) ∧ k_ ≠ gb322) (.slice (some ⟨go36,0,none⟩) t317.length co42) y323 := (by rw [hw,Ny323.out]; exact HP56.1); clear HP56; have n0_ := Aside0.mk (Kd.V_afterv (v:=(.slice (some ⟨go36,0,none⟩) t317.length co42)) (v1 := (.slice (some ⟨go36,0,none⟩) t317.length co42)) (ok := (fun k_ => (P0_0_ k_ ∨ w.heap.size ≤ k_) ∧ k_ ≠ gb301 ∧ k_ ≠ gb302 ∧ k_ ≠ gb321 ∧ k_ ≠ gb322)) (by (with_reducible repeat (first | apply Kd.V_alloc | apply Kd.V_drewN | apply Kd.V_drew)); exact Kd.V_mono HO_302000.out (fun _ hk => ⟨⟨hk.1,⟨hk.2.2.1,⟨hk.2.2.2.1,⟨hk.2.2.2.2.1,hk.2.2.2.2.2⟩⟩⟩⟩,hk.2.1⟩)) hg (.inl rfl)); have n1_ := Aside0.mk (blk_grown (g:=gb301) (o:=.cells #[.slice A0_0 l0_0.length c0_0,.int .i64 a0_1] 28 (0,0)) (kA BK301.out) hg (Kd.R_ne HO319.out BK301.out (by decide))); have n2_ := Aside0.mk (blk_grown (g:=gb302) (o:=.cells #[.slice none 0 0,.int .i64 0] 28 (0,0)) (kA BK302.out) hg (Kd.R_ne HO319.out BK302.out (by decide))); have n3_ := Aside0.mk (hp_); have n4_ := Aside0.mk (blk_grown (g:=gb321) (o:=.cells #[.slice (some ⟨go36,0,none⟩) t317.length co42,.int .i64 t320] 28 (0,0)) (kA BK321.out) hg (Kd.R_ne HO319.out BK321.out (by decide))); have n5_ := Aside0.mk (blk_grown (g:=gb322) (o:=.cells #[.string a1,.int .i64 a0_1,.string a2] 71 (0,0)) (kA BK322.out) hg (Kd.R_away HO319.out (fun _ hk => hk.2))); have n6_ := Aside0.mk ((by rw [hw]; exact below_set (below_set (below_set (HB.out) GB36.out) GB36.out) GB36.out : Below w.heap.size w w57)); clear HO_302000; clear BK301; clear BK302; clear HO319; clear BK321; clear BK322; clear HB; have HO_302000 := n0_; have BK301 := n1_; have BK302 := n2_; have HO319 := n3_; have BK321 := n4_; have BK322 := n5_; have HB := n6_; clear n0_ n1_ n2_ n3_ n4_ n5_ n6_; clear hg hw hp_; have hcz58_0 : w57.cell? ⟨gb321,0,none⟩ = some (.slice (some ⟨go36,0,none⟩) t317.length co42) := (blk_cell BK321.out 0).trans rfl; have hcz58_1 : w57.cell? ⟨gb321,1,none⟩ = some (.int .i64 t320) := (blk_cell BK321.out 1).trans rfl; have hfz58_0 := blk_frozen BK321.out 0; have hfz58_1 := blk_frozen BK321.out 1))
       have n0_ : Aside0 (Kd.V k71 71 (w57.setCell ⟨gb321,1,none⟩ (.int .i64 (wrap64 (t320 + 1)))) w.heap.size (fun k_ => (P0_0_ k_ ∨ w.heap.size ≤ k_) ∧ some k_ ≠ (.slice (some ⟨go36,0,none⟩) t317.length co42 : Value).ownBlock ∧ k_ ≠ gb301 ∧ k_ ≠ gb302 ∧ k_ ≠ gb321 ∧ k_ ≠ gb322) (.slice A0_0 l0_0.length c0_0) l0_0) := ⟨by (with_reducible repeat (first | apply Kd.V_alloc | apply Kd.V_drewN | apply Kd.V_drew)); exact Kd.V_mono (Kd.V_far (p:=⟨gb321,1,none⟩) (Kd.V_mono HO_302000.out (fun k_ hk => (⟨hk,hk.1.2.2.2.1⟩ : _ ∧ k_ ≠ gb321))) (fun _ hk => hk.2) (.int .i64 (wrap64 (t320 + 1)))) (fun _ hk => ⟨hk.1.1.1,⟨hk.1.2,⟨hk.1.1.2.1,⟨hk.1.1.2.2.1,⟨hk.1.1.2.2.2.1,hk.1.1.2.2.2.2⟩⟩⟩⟩⟩)⟩
       have n1_ : Aside0 (Kd.R k71 71 (w57.setCell ⟨gb321,1,none⟩ (.int .i64 (wrap64 (t320 + 1)))) w.heap.size (fun k_ => (w.heap.size ≤ k_) ∧ k_ ≠ gb322) (.slice (some ⟨go36,0,none⟩) t317.length co42) y323) := ⟨by (with_reducible repeat (first | apply Kd.R_alloc | apply Kd.R_drewN | apply Kd.R_drew)); exact Kd.R_mono (Kd.R_far (p:=⟨gb321,1,none⟩) (Kd.R_types HO319.out BK321.out (by decide)) (fun _ hk => hk.2) (.int .i64 (wrap64 (t320 + 1)))) (fun _ hk => ⟨hk.1.1,hk.1.2⟩)⟩
       have n2_ : Aside0 ((w57.setCell ⟨gb321,1,none⟩ (.int .i64 (wrap64 (t320 + 1)))).heap[gb301]? = some (.cells #[.slice A0_0 l0_0.length c0_0,.int .i64 a0_1] 28 (0,0))) := ⟨kF BK301.out⟩
       have n3_ : Aside0 ((w57.setCell ⟨gb321,1,none⟩ (.int .i64 (wrap64 (t320 + 1)))).heap[gb302]? = some (.cells #[.slice none 0 0,.int .i64 0] 28 (0,0))) := ⟨kF BK302.out⟩
       have n4_ : Aside0 ((w57.setCell ⟨gb321,1,none⟩ (.int .i64 (wrap64 (t320 + 1)))).heap[gb321]? = some (.cells #[.slice (some ⟨go36,0,none⟩) t317.length co42,.int .i64 (wrap64 (t320 + 1))] 28 (0,0))) := ⟨by (with_reducible repeat (first | refine blk_drewN ?_ _ | refine blk_drew ?_ | refine blk_alloc ?_ _)); refine blk_put (cs := #[.slice (some ⟨go36,0,none⟩) t317.length co42,.int .i64 t320]) ?_ 1 _ rfl; (with_reducible repeat (first | refine blk_drewN ?_ _ | refine blk_drew ?_ | refine blk_alloc ?_ _)); exact BK321.out⟩
       have n5_ : Aside0 ((w57.setCell ⟨gb321,1,none⟩ (.int .i64 (wrap64 (t320 + 1)))).heap[gb322]? = some (.cells #[.string a1,.int .i64 a0_1,.string a2] 71 (0,0))) := ⟨kF BK322.out⟩
       have n6_ : Aside0 (Below w.heap.size w (w57.setCell ⟨gb321,1,none⟩ (.int .i64 (wrap64 (t320 + 1))))) := ⟨bA⟩
       (try clear HO_302000)
       (try clear HO319)
       (try clear BK301)
       (try clear BK302)
       (try clear BK321)
       (try clear BK322)
       (try clear HB)
       generalize (w57.setCell ⟨gb321,1,none⟩ (.int .i64 (wrap64 (t320 + 1)))) = w59 at n0_ n1_ n2_ n3_ n4_ n5_ n6_ ⊢
       have HO_302000 := n0_
       have HO319 := n1_
       have BK301 := n2_
       have BK302 := n3_
       have BK321 := n4_
       have BK322 := n5_
       have HB := n6_
       clear n0_ n1_ n2_ n3_ n4_ n5_ n6_
       have n0_ := Aside0.mk (Kd.V_drew HO_302000.out)
       have n1_ := Aside0.mk (Kd.R_drew HO319.out)
       have n2_ := Aside0.mk (blk_drew BK301.out)
       have n3_ := Aside0.mk (blk_drew BK302.out)
       have n4_ := Aside0.mk (blk_drew BK321.out)
       have n5_ := Aside0.mk (blk_drew BK322.out)
       have n6_ := Aside0.mk (below_drew1 HB.out)
       clear HO_302000
       clear HO319
       clear BK301
       clear BK302
       clear BK321
       clear BK322
       clear HB
       have HO_302000 := n0_
       have HO319 := n1_
       have BK301 := n2_
       have BK302 := n3_
       have BK321 := n4_
       have BK322 := n5_
       have HB := n6_
       clear n0_ n1_ n2_ n3_ n4_ n5_ n6_
       refine start_ (n:=6) (S:=fun w' => w'.cell? ⟨gb321,0,none⟩ = some (.slice (some ⟨go36,0,none⟩) t317.length co42) ∧ w'.cell? ⟨gb321,1,none⟩ = some (.int .i64 (wrap64 (t320 + 1))) ∧ w'.cell? ⟨gb301,0,none⟩ = some (.slice A0_0 l0_0.length c0_0) ∧ w'.cell? ⟨gb301,1,none⟩ = some (.int .i64 a0_1)) (ds := []) (bm 6 0) (by kernel_rfl) rfl rfl ⟨(blk_cell BK321.out 0).trans rfl,(blk_cell BK321.out 1).trans rfl,(blk_cell BK301.out 0).trans rfl,(blk_cell BK301.out 1).trans rfl⟩ (fun hHeld => ?_)
       generalize w59.drew = w60 at HO_302000 HO319 BK301 BK302 BK321 BK322 HB hHeld ⊢
       refine pure_ (i:=1) (N:=some 71) (v:=?_) (a':=?_) (bm 6 2) rfl rfl (by kernel_rfl) (fun _ _ _ h => h) (Or.inl ⟨by rfl,?_⟩) ?_ ?_
       rotate_left
       ·intro w'
        go_simp
        with_reducible rfl
       rotate_left
       ·simp only [Act.put,setIfInBounds_toArray,set_cons_zero,set_cons_succ,i64_w,i32_w]
        rfl
       refine take_ (i:=0) (N:=some 70) (v:=?_) (a':=?_) (bm 6 3) rfl rfl (by kernel_rfl) (fun _ _ _ h => h) (Or.inl ⟨by rfl,?_⟩) hHeld ?_ ?_
       rotate_left
       ·rintro w' ⟨s0,s1,s2,s3⟩
        go_simp
        with_reducible rfl
       rotate_left
       ·simp only [Act.put,setIfInBounds_toArray,set_cons_zero,set_cons_succ,i64_w,i32_w]
        rfl
       refine take_ (i:=2) (N:=some 72) (v:=?_) (a':=?_) (bm 6 7) rfl rfl (by kernel_rfl) (fun _ _ _ h => h) (Or.inl ⟨by rfl,?_⟩) hHeld ?_ ?_
       rotate_left
       ·rintro w' ⟨s0,s1,s2,s3⟩
        go_simp
        with_reducible rfl
       rotate_left
       ·simp only [Act.put,setIfInBounds_toArray,set_cons_zero,set_cons_succ,i64_w,i32_w]
        rfl
       refine one_ (i:=3) (N:=none) (bm 6 15) rfl rfl (by kernel_rfl) (by decide) (fun K hK => ?_)
       have hs61 : w60.cell? ⟨gb302,0,none⟩ = some (.slice none 0 0) := (blk_cell BK302.out 0).trans rfl
       have hfs61 := blk_frozen BK302.out 0
       have hns61_0 := NB301_302.out
       have hns61_2 := NB321_302.out
       have hns61_3 := NB322_302.out
       have hms61_0 := NB302_301.out
       have hms61_2 := NB302_321.out
       have hms61_3 := NB302_322.out
       have hs62 : w60.cell? ⟨gb302,1,none⟩ = some (.int .i64 0) := (blk_cell BK302.out 1).trans rfl
       have hfs62 := blk_frozen BK302.out 1
       have hns62_0 := NB301_302.out
       have hns62_2 := NB321_302.out
       have hns62_3 := NB322_302.out
       have hms62_0 := NB302_301.out
       have hms62_2 := NB302_321.out
       have hms62_3 := NB302_322.out
       refine skip_ (w1 := ?_) (by rfl) rfl ?_ ?_
       rotate_left
       ·go_simp
        rfl
       refine hK.out _ _ ⟨((cell_far (p:=⟨gb302,_,none⟩) NB321_302.out _).trans (((cell_far (p:=⟨gb302,_,none⟩) NB321_302.out _).trans (hHeld.1)))),((cell_far (p:=⟨gb302,_,none⟩) NB321_302.out _).trans (((cell_far (p:=⟨gb302,_,none⟩) NB321_302.out _).trans (hHeld.2.1)))),((cell_far (p:=⟨gb302,_,none⟩) NB301_302.out _).trans (((cell_far (p:=⟨gb302,_,none⟩) NB301_302.out _).trans (hHeld.2.2.1)))),((cell_far (p:=⟨gb302,_,none⟩) NB301_302.out _).trans (((cell_far (p:=⟨gb302,_,none⟩) NB301_302.out _).trans (hHeld.2.2.2))))⟩ (fun hHeld => ?_)
       clear hK K
       refine pure_ (i:=4) (N:=some 7) (v:=?_) (a':=?_) (bm 6 31) rfl rfl (by kernel_rfl) (fun _ _ _ h => h) (Or.inl ⟨by rfl,?_⟩) ?_ ?_
       rotate_left
       ·intro w'
        go_simp
        with_reducible rfl
       rotate_left
       ·simp only [Act.put,setIfInBounds_toArray,set_cons_zero,set_cons_succ,i64_w,i32_w]
        rfl
       refine pure_ (i:=5) (N:=some 8) (v:=?_) (a':=?_) (bm 6 63) rfl rfl (by kernel_rfl) (fun _ _ _ h => h) (Or.inl ⟨by rfl,?_⟩) ?_ ?_
       rotate_left
       ·intro w'
        go_simp
        with_reducible rfl
       rotate_left
       ·simp only [Act.put,setIfInBounds_toArray,set_cons_zero,set_cons_succ,i64_w,i32_w]
        rfl
       refine done_ (by kernel_rfl) ?_
       try go_wp2
       refine bodyPost_ret (results_ctt rfl _ _ gb302 28 #[.slice (some ⟨go36,0,none⟩) t317.length co42,.int .i64 (wrap64 (t320 + 1))] (0,0) _ rfl (by (with_reducible repeat (first | refine blk_drewN ?_ _ | refine blk_drew ?_ | refine blk_alloc ?_ _)); refine blk_put (cs := #[.slice (some ⟨go36,0,none⟩) t317.length co42,.int .i64 0]) ?_ 1 _ rfl; (with_reducible repeat (first | refine blk_drewN ?_ _ | refine blk_drew ?_ | refine blk_alloc ?_ _)); refine blk_put (cs := #[.slice none 0 0,.int .i64 0]) ?_ 0 _ rfl; (with_reducible repeat (first | refine blk_drewN ?_ _ | refine blk_drew ?_ | refine blk_alloc ?_ _)); exact BK302.out) Try.underlying28 rfl (by kernel_rfl)) rfl ?_
       exact ⟨_,by first | rfl | (simp only [i64_w,i32_w] <;> rfl) | (simp [errW_none,errW_some] <;> rfl) | (simp [*,errW_none,errW_some] <;> rfl),Kd.V_mono (Kd.R_V (by (with_reducible repeat (first | apply Kd.R_alloc | apply Kd.R_drewN | apply Kd.R_drew)); exact Kd.R_mono (Kd.R_far (p:=⟨gb302,1,none⟩) (Kd.R_far (p:=⟨gb302,0,none⟩) (Kd.R_types HO319.out BK302.out (by decide)) (fun _ hk => hk.2) (.slice (some ⟨go36,0,none⟩) t317.length co42)) (fun _ hk => hk.2) (.int .i64 (wrap64 (t320 + 1)))) (fun _ hk => hk.1.1))) (fun k_ hk => by first | exact ⟨(.inr (hk.1)),hk.2⟩ | exact (.inr (hk))),bA⟩
      ·rw [if_neg c35] at H
       exact absurd H (by simp)
     ·rw [if_neg c34] at H
      exact absurd H (by simp)
    ·replace c33 := Bool.eq_false_iff.mpr c33
     subst c33
     rw [if_neg (show ¬ (false = true) by decide)] at H
     by_cases c63 : t317.length < 3518437208000 ∧ 0 ≤ t303 ∧ t303 ≤ (t317.length : Int)
     ·rw [if_pos c63] at H
      have LMc63 := Aside0.mk c63
      clear c63
      obtain ⟨y324,hy324⟩ : ∃ y_ : List (S71),y_ = (t317.take (t303 : Int).toNat ++ (⟨a1,a0_1,a2⟩ : S71) :: t317.drop (t303 : Int).toNat) := ⟨_,rfl⟩
      replace H : (some (y324,wrap64 (t320 + 1),a0_1,0)) = some (r1,r2,r3,r4) := by first | (rw [hy324]; with_reducible exact H) | (have H2_ := (Option.bind_some _ _).symm.trans H; rw [hy324]; with_reducible exact H2_) | (have H2_ := (Option.bind_some _ _).symm.trans H; with_reducible exact H2_) | with_reducible exact H | (rw [hy324]; exact H) | exact H
      have Ny324 := Aside0.mk hy324
      clear hy324
      simp only [Option.some.injEq,Prod.mk.injEq] at H
      obtain ⟨rfl,rfl,rfl,rfl⟩ := H
      try go_wp2
      have n0_ := Aside0.mk (Kd.V_drew HO_302000.out)
      have n1_ := Aside0.mk (blk_drew BK301.out)
      have n2_ := Aside0.mk (blk_drew BK302.out)
      have n3_ := Aside0.mk (below_drew1 HB.out)
      clear HO_302000
      clear BK301
      clear BK302
      clear HB
      have HO_302000 := n0_
      have BK301 := n1_
      have BK302 := n2_
      have HB := n3_
      clear n0_ n1_ n2_ n3_
      refine start_ (n:=11) (S:=fun w' => w'.cell? ⟨gb301,0,none⟩ = some (.slice A0_0 l0_0.length c0_0) ∧ w'.cell? ⟨gb301,1,none⟩ = some (.int .i64 a0_1)) (ds := []) (bm 11 0) (by kernel_rfl) rfl rfl ⟨(blk_cell BK301.out 0).trans rfl,(blk_cell BK301.out 1).trans rfl⟩ (fun hHeld => ?_); refine with_tabW impl_Store_put.tab5 impl_Store_put.bits5 (fun HT_ HW_ => ?_)
      generalize wc.drew = w64 at HO_302000 BK301 BK302 HB hHeld ⊢
      refine pV_ 2 48 (bm 11 4) HT_.out ?_
      refine pV_ 3 49 (bm 11 12) HT_.out ?_
      refine pV_ 5 51 (bm 11 44) HT_.out ?_
      refine take_ (i:=0) (N:=some 46) (v:=?_) (a':=?_) (bm 11 45) rfl rfl (take_ofW HT_.out HW_.out (by kernel_rfl)) (fun _ _ _ h => h) (Or.inl ⟨by rfl,?_⟩) hHeld ?_ ?_
      rotate_left
      ·rintro w' ⟨s0,s1⟩
       go_simp
       with_reducible rfl
      rotate_left
      ·simp only [Act.put,setIfInBounds_toArray,set_cons_zero,set_cons_succ,i64_w,i32_w]
       rfl
      refine take_ (i:=4) (N:=some 50) (v:=?_) (a':=?_) (bm 11 61) rfl rfl (take_ofW HT_.out HW_.out (by kernel_rfl)) (fun _ _ _ h => h) (Or.inl ⟨by rfl,?_⟩) hHeld ?_ ?_
      rotate_left
      ·rintro w' ⟨s0,s1⟩
       go_simp
       with_reducible rfl
      rotate_left
      ·simp only [Act.put,setIfInBounds_toArray,set_cons_zero,set_cons_succ,i64_w,i32_w]
       rfl
      refine pV_ 6 52 (bm 11 125) HT_.out ?_
      refine join_ (σ := Value × Nat × Nat) 2 (bm 11 511) (fun s_ => [(47,.agg #[s_.1,.int .i64 t320]),(12,.pointer (some ⟨s_.2.1,0,none⟩)),(13,.pointer (some ⟨s_.2.2,0,none⟩))]) (fun s_ w' => (w'.cell? ⟨gb301,0,none⟩ = some (.slice A0_0 l0_0.length c0_0) ∧ w'.cell? ⟨gb301,1,none⟩ = some (.int .i64 a0_1)) ∧ (Kd.R k71 71 w' w.heap.size (fun k_ => (w.heap.size ≤ k_) ∧ k_ ≠ s_.2.2) s_.1 t317) ∧ (Kd.V k71 71 w' w.heap.size (fun k_ => (P0_0_ k_ ∨ w.heap.size ≤ k_) ∧ some k_ ≠ (s_.1 : Value).ownBlock ∧ k_ ≠ gb301 ∧ k_ ≠ gb302 ∧ k_ ≠ s_.2.1 ∧ k_ ≠ s_.2.2) (.slice A0_0 l0_0.length c0_0) l0_0) ∧ (w'.heap[gb301]? = some (.cells #[.slice A0_0 l0_0.length c0_0,.int .i64 a0_1] 28 (0,0))) ∧ (w'.heap[gb302]? = some (.cells #[.slice none 0 0,.int .i64 0] 28 (0,0))) ∧ (w'.heap[s_.2.1]? = some (.cells #[.slice none 0 0,.int .i64 0] 28 (0,0))) ∧ (w'.heap[s_.2.2]? = some (.cells #[.string (⟨#[]⟩ : ByteArray),.int .i64 0,.string (⟨#[]⟩ : ByteArray)] 71 (0,0))) ∧ (w.heap.size ≤ s_.2.1) ∧ (w.heap.size ≤ s_.2.1) ∧ (gb301 ≠ s_.2.1) ∧ (s_.2.1 ≠ gb301) ∧ (gb302 ≠ s_.2.1) ∧ (s_.2.1 ≠ gb302) ∧ (s_.2.2 ≠ s_.2.1) ∧ (s_.2.1 ≠ s_.2.2) ∧ (w.heap.size ≤ s_.2.2) ∧ (w.heap.size ≤ s_.2.2) ∧ (gb301 ≠ s_.2.2) ∧ (s_.2.2 ≠ gb301) ∧ (gb302 ≠ s_.2.2) ∧ (s_.2.2 ≠ gb302) ∧ (Below w.heap.size w w')) ?_ ?_
      rotate_left
      ·intro hJ1_7_8
       refine join_ (σ := Value × Nat) 3 (bm 11 255) (fun s_ => [(47,.agg #[s_.1,.int .i64 t320]),(12,.pointer (some ⟨s_.2,0,none⟩))]) (fun s_ w' => (w'.cell? ⟨gb301,0,none⟩ = some (.slice A0_0 l0_0.length c0_0) ∧ w'.cell? ⟨gb301,1,none⟩ = some (.int .i64 a0_1)) ∧ (Kd.R k71 71 w' w.heap.size (fun k_ => (w.heap.size ≤ k_)) s_.1 t317) ∧ (Kd.V k71 71 w' w.heap.size (fun k_ => (P0_0_ k_ ∨ w.heap.size ≤ k_) ∧ some k_ ≠ (s_.1 : Value).ownBlock ∧ k_ ≠ gb301 ∧ k_ ≠ gb302 ∧ k_ ≠ s_.2) (.slice A0_0 l0_0.length c0_0) l0_0) ∧ (w'.heap[gb301]? = some (.cells #[.slice A0_0 l0_0.length c0_0,.int .i64 a0_1] 28 (0,0))) ∧ (w'.heap[gb302]? = some (.cells #[.slice none 0 0,.int .i64 0] 28 (0,0))) ∧ (w'.heap[s_.2]? = some (.cells #[.slice none 0 0,.int .i64 0] 28 (0,0))) ∧ (w.heap.size ≤ s_.2) ∧ (w.heap.size ≤ s_.2) ∧ (gb301 ≠ s_.2) ∧ (s_.2 ≠ gb301) ∧ (gb302 ≠ s_.2) ∧ (s_.2 ≠ gb302) ∧ (Below w.heap.size w w')) ?_ ?_
       rotate_left
       ·intro hJ1_7
        refine join_ (σ := Value × Nat) 3 (bm 11 383) (fun s_ => [(47,.agg #[s_.1,.int .i64 t320]),(13,.pointer (some ⟨s_.2,0,none⟩))]) (fun s_ w' => (w'.cell? ⟨gb301,0,none⟩ = some (.slice A0_0 l0_0.length c0_0) ∧ w'.cell? ⟨gb301,1,none⟩ = some (.int .i64 a0_1)) ∧ (Kd.R k71 71 w' w.heap.size (fun k_ => (w.heap.size ≤ k_) ∧ k_ ≠ s_.2) s_.1 t317) ∧ (Kd.V k71 71 w' w.heap.size (fun k_ => (P0_0_ k_ ∨ w.heap.size ≤ k_) ∧ some k_ ≠ (s_.1 : Value).ownBlock ∧ k_ ≠ gb301 ∧ k_ ≠ gb302 ∧ k_ ≠ s_.2) (.slice A0_0 l0_0.length c0_0) l0_0) ∧ (w'.heap[gb301]? = some (.cells #[.slice A0_0 l0_0.length c0_0,.int .i64 a0_1] 28 (0,0))) ∧ (w'.heap[gb302]? = some (.cells #[.slice none 0 0,.int .i64 0] 28 (0,0))) ∧ (w'.heap[s_.2]? = some (.cells #[.string (⟨#[]⟩ : ByteArray),.int .i64 0,.string (⟨#[]⟩ : ByteArray)] 71 (0,0))) ∧ (w.heap.size ≤ s_.2) ∧ (w.heap.size ≤ s_.2) ∧ (gb301 ≠ s_.2) ∧ (s_.2 ≠ gb301) ∧ (gb302 ≠ s_.2) ∧ (s_.2 ≠ gb302) ∧ (Below w.heap.size w w')) ?_ ?_
        rotate_left
        ·intro hJ1_8
         refine join_ (σ := Nat × Nat) 3 (bm 11 509) (fun s_ => [(12,.pointer (some ⟨s_.1,0,none⟩)),(13,.pointer (some ⟨s_.2,0,none⟩))]) (fun s_ w' => (w'.cell? ⟨gb301,0,none⟩ = some (.slice A0_0 l0_0.length c0_0) ∧ w'.cell? ⟨gb301,1,none⟩ = some (.int .i64 a0_1)) ∧ (Kd.V k71 71 w' w.heap.size (fun k_ => (P0_0_ k_ ∨ w.heap.size ≤ k_) ∧ k_ ≠ gb301 ∧ k_ ≠ gb302 ∧ k_ ≠ s_.1 ∧ k_ ≠ s_.2) (.slice A0_0 l0_0.length c0_0) l0_0) ∧ (w'.heap[gb301]? = some (.cells #[.slice A0_0 l0_0.length c0_0,.int .i64 a0_1] 28 (0,0))) ∧ (w'.heap[gb302]? = some (.cells #[.slice none 0 0,.int .i64 0] 28 (0,0))) ∧ (w'.heap[s_.1]? = some (.cells #[.slice none 0 0,.int .i64 0] 28 (0,0))) ∧ (w'.heap[s_.2]? = some (.cells #[.string (⟨#[]⟩ : ByteArray),.int .i64 0,.string (⟨#[]⟩ : ByteArray)] 71 (0,0))) ∧ (w.heap.size ≤ s_.1) ∧ (w.heap.size ≤ s_.1) ∧ (gb301 ≠ s_.1) ∧ (s_.1 ≠ gb301) ∧ (gb302 ≠ s_.1) ∧ (s_.1 ≠ gb302) ∧ (s_.2 ≠ s_.1) ∧ (s_.1 ≠ s_.2) ∧ (w.heap.size ≤ s_.2) ∧ (w.heap.size ≤ s_.2) ∧ (gb301 ≠ s_.2) ∧ (s_.2 ≠ gb301) ∧ (gb302 ≠ s_.2) ∧ (s_.2 ≠ gb302) ∧ (Below w.heap.size w w')) ?_ ?_
         rotate_left
         ·intro hJ7_8
          refine join_ (σ := Value) 4 (bm 11 127) (fun s_ => [(47,.agg #[s_,.int .i64 t320])]) (fun s_ w' => (w'.cell? ⟨gb301,0,none⟩ = some (.slice A0_0 l0_0.length c0_0) ∧ w'.cell? ⟨gb301,1,none⟩ = some (.int .i64 a0_1)) ∧ (Kd.R k71 71 w' w.heap.size (fun k_ => (w.heap.size ≤ k_)) s_ t317) ∧ (Kd.V k71 71 w' w.heap.size (fun k_ => (P0_0_ k_ ∨ w.heap.size ≤ k_) ∧ some k_ ≠ (s_ : Value).ownBlock ∧ k_ ≠ gb301 ∧ k_ ≠ gb302) (.slice A0_0 l0_0.length c0_0) l0_0) ∧ (w'.heap[gb301]? = some (.cells #[.slice A0_0 l0_0.length c0_0,.int .i64 a0_1] 28 (0,0))) ∧ (w'.heap[gb302]? = some (.cells #[.slice none 0 0,.int .i64 0] 28 (0,0))) ∧ (Below w.heap.size w w')) ?_ ?_
          rotate_left
          ·intro hJ1
           refine join_ (σ := Nat) 4 (bm 11 253) (fun s_ => [(12,.pointer (some ⟨s_,0,none⟩))]) (fun s_ w' => (w'.cell? ⟨gb301,0,none⟩ = some (.slice A0_0 l0_0.length c0_0) ∧ w'.cell? ⟨gb301,1,none⟩ = some (.int .i64 a0_1)) ∧ (Kd.V k71 71 w' w.heap.size (fun k_ => (P0_0_ k_ ∨ w.heap.size ≤ k_) ∧ k_ ≠ gb301 ∧ k_ ≠ gb302 ∧ k_ ≠ s_) (.slice A0_0 l0_0.length c0_0) l0_0) ∧ (w'.heap[gb301]? = some (.cells #[.slice A0_0 l0_0.length c0_0,.int .i64 a0_1] 28 (0,0))) ∧ (w'.heap[gb302]? = some (.cells #[.slice none 0 0,.int .i64 0] 28 (0,0))) ∧ (w'.heap[s_]? = some (.cells #[.slice none 0 0,.int .i64 0] 28 (0,0))) ∧ (w.heap.size ≤ s_) ∧ (w.heap.size ≤ s_) ∧ (gb301 ≠ s_) ∧ (s_ ≠ gb301) ∧ (gb302 ≠ s_) ∧ (s_ ≠ gb302) ∧ (Below w.heap.size w w')) ?_ ?_
           rotate_left
           ·intro hJ7
            refine join_ (σ := Nat) 4 (bm 11 381) (fun s_ => [(13,.pointer (some ⟨s_,0,none⟩))]) (fun s_ w' => (w'.cell? ⟨gb301,0,none⟩ = some (.slice A0_0 l0_0.length c0_0) ∧ w'.cell? ⟨gb301,1,none⟩ = some (.int .i64 a0_1)) ∧ (Kd.V k71 71 w' w.heap.size (fun k_ => (P0_0_ k_ ∨ w.heap.size ≤ k_) ∧ k_ ≠ gb301 ∧ k_ ≠ gb302 ∧ k_ ≠ s_) (.slice A0_0 l0_0.length c0_0) l0_0) ∧ (w'.heap[gb301]? = some (.cells #[.slice A0_0 l0_0.length c0_0,.int .i64 a0_1] 28 (0,0))) ∧ (w'.heap[gb302]? = some (.cells #[.slice none 0 0,.int .i64 0] 28 (0,0))) ∧ (w'.heap[s_]? = some (.cells #[.string (⟨#[]⟩ : ByteArray),.int .i64 0,.string (⟨#[]⟩ : ByteArray)] 71 (0,0))) ∧ (w.heap.size ≤ s_) ∧ (w.heap.size ≤ s_) ∧ (gb301 ≠ s_) ∧ (s_ ≠ gb301) ∧ (gb302 ≠ s_) ∧ (s_ ≠ gb302) ∧ (Below w.heap.size w w')) ?_ ?_
            rotate_left
            ·intro hJ8
             refine three_ (i:=1) (j:=7) (k:=8) (Ni := some 47) (Nj := some 12) (Nk := some 13) (bm 11 127) (bm 11 253) (bm 11 381) rfl rfl rfl rfl rfl rfl (three_of HT_.out (by kernel_rfl)) (by decide) (by decide) (by decide) (fun K hK => ?_) (fun K hK => ?_) (fun K hK => ?_)
             ·skip
              refine goes_ Try.func32 (by kernel_rfl) rfl #[.agg #[.slice A0_0 l0_0.length c0_0,.int .i64 a0_1]] (by rfl) rfl rfl mA ?_
              with_reducible refine (impl_Store_copied.calls _ _ l0_0 a0_1 t317 t320 _ ?side1 ?side2 A32.out).mono ?_
              (case side1 => repeat (first | exact (Kd.V_reads' HO_302000.out).2.2 | (with_reducible refine Kd.C_alloc ?_ _) | (with_reducible refine Kd.C_drewN ?_ _) | (with_reducible refine Kd.C_drew ?_)))
              (case side2 => exact (Kd.V_reads' HO_302000.out).2.1)
              rintro e w65 ⟨v318,rfl,ho0,hb⟩
              refine ⟨_,rfl,?_⟩
              have n0_ := Aside0.mk (Kd.V_elder' (by (with_reducible repeat (first | apply Kd.V_alloc | apply Kd.V_drewN | apply Kd.V_drew)); exact HO_302000.out) (Kd.R_base ho0) hb)
              have n1_ := Aside0.mk (Kd.R_lower (Kd.R_newM (M:=fun k_ => (w.heap.size ≤ k_)) ho0 (below_size bA) (fun k_ h_ => h_)) (below_size bA))
              have n2_ := Aside0.mk (blk_below (g:=gb301) (o:=.cells #[.slice A0_0 l0_0.length c0_0,.int .i64 a0_1] 28 (0,0)) (kA BK301.out) hb)
              have n3_ := Aside0.mk (blk_below (g:=gb302) (o:=.cells #[.slice none 0 0,.int .i64 0] 28 (0,0)) (kA BK302.out) hb)
              have n4_ := Aside0.mk (below_step bA hb)
              clear HO_302000
              clear BK301
              clear BK302
              clear HB
              have HO_302000 := n0_
              have HO319 := n1_
              have BK301 := n2_
              have BK302 := n3_
              have HB := n4_
              clear n0_ n1_ n2_ n3_ n4_
              (try clear hb)
              (try clear hb2)
              (try clear hk)
              (try clear hi)
              (try clear ho0)
              refine hK.out _ _ ⟨(blk_cell BK301.out 0).trans rfl,(blk_cell BK301.out 1).trans rfl⟩ (fun hHeld => ?_)
              clear hK K
              refine norm_ (a':=?_) ?_ ?_
              rotate_left
              ·show Act.put _ (some 47) _ = _
               simp only [Act.put,setIfInBounds_toArray,set_cons_zero,set_cons_succ,i64_w,i32_w]
               rfl
              exact norm_ (by first | (simp only [putAll,Act.put,setIfInBounds_toArray,set_cons_zero,set_cons_succ]; done) | (simp only [putAll,Act.put,setIfInBounds_toArray,set_cons_zero,set_cons_succ]; rfl)) (hJ1 (v318) _ ⟨hHeld,(by (with_reducible repeat (first | apply Kd.R_alloc | apply Kd.R_drewN | apply Kd.R_drew)); exact Kd.R_mono HO319.out (fun _ hk => hk.1)),(by (with_reducible repeat (first | apply Kd.V_alloc | apply Kd.V_drewN | apply Kd.V_drew)); exact Kd.V_mono HO_302000.out (fun _ hk => ⟨hk.1.1,⟨hk.2,⟨hk.1.2.1,hk.1.2.2⟩⟩⟩)),(kA BK301.out),(kA BK302.out),bA⟩)
             ·skip
              refine box_step ?hg (N:=12) ?hd (cs := #[.slice none 0 0,.int .i64 0]) (t:=28) ?hr ?_; (case hd => rfl); (case hg => rfl); (case hr => first | (go_simp; done) | (go_simp; rfl))
              intro gb321 hg w65 hbox hb
              have n0_ := Aside0.mk (Kd.V_below (Kd.V_elderB (by (with_reducible repeat (first | apply Kd.V_alloc | apply Kd.V_drewN | apply Kd.V_drew)); exact HO_302000.out) gb321 (Nat.le_of_eq hg.symm)) hb)
              have n1_ := Aside0.mk (blk_below (g:=gb301) (o:=.cells #[.slice A0_0 l0_0.length c0_0,.int .i64 a0_1] 28 (0,0)) (kA BK301.out) hb)
              have n2_ := Aside0.mk (blk_below (g:=gb302) (o:=.cells #[.slice none 0 0,.int .i64 0] 28 (0,0)) (kA BK302.out) hb)
              have n3_ := Aside0.mk (below_step bA hb)
              have n4_ := Aside0.mk (hbox)
              have n5_ := Aside0.mk ((by rw [hg]; exact (below_size bA) : w.heap.size ≤ gb321))
              have n6_ := Aside0.mk ((by rw [hg]; exact (below_size bA) : w.heap.size ≤ gb321))
              have n7_ := Aside0.mk ((by rw [hg]; exact Nat.ne_of_lt (blk_lt (g:=gb301) (o:=.cells #[.slice A0_0 l0_0.length c0_0,.int .i64 a0_1] 28 (0,0)) (kA BK301.out)) : gb301 ≠ gb321))
              have n8_ := Aside0.mk ((by rw [hg]; exact Nat.ne_of_gt (blk_lt (g:=gb301) (o:=.cells #[.slice A0_0 l0_0.length c0_0,.int .i64 a0_1] 28 (0,0)) (kA BK301.out)) : gb321 ≠ gb301))
              have n9_ := Aside0.mk ((by rw [hg]; exact Nat.ne_of_lt (blk_lt (g:=gb302) (o:=.cells #[.slice none 0 0,.int .i64 0] 28 (0,0)) (kA BK302.out)) : gb302 ≠ gb321))
              have n10_ := Aside0.mk ((by rw [hg]; exact Nat.ne_of_gt (blk_lt (g:=gb302) (o:=.cells #[.slice none 0 0,.int .i64 0] 28 (0,0)) (kA BK302.out)) : gb321 ≠ gb302))
              clear HO_302000
              clear BK301
              clear BK302
              clear HB
              have HO_302000 := n0_
              have BK301 := n1_
              have BK302 := n2_
              have HB := n3_
              have BK321 := n4_
              have GW321 := n5_
              have GE321 := n6_
              have NB301_321 := n7_
              have NB321_301 := n8_
              have NB302_321 := n9_
              have NB321_302 := n10_
              clear n0_ n1_ n2_ n3_ n4_ n5_ n6_ n7_ n8_ n9_ n10_
              clear hb hbox hg
              refine hK.out _ _ ⟨(blk_cell BK301.out 0).trans rfl,(blk_cell BK301.out 1).trans rfl⟩ (fun hHeld => ?_)
              clear hK K
              refine norm_ (a':=?_) ?_ ?_
              rotate_left
              ·show Act.put _ (some 12) _ = _
               simp only [Act.put,setIfInBounds_toArray,set_cons_zero,set_cons_succ,i64_w,i32_w]
               rfl
              exact norm_ (by first | (simp only [putAll,Act.put,setIfInBounds_toArray,set_cons_zero,set_cons_succ]; done) | (simp only [putAll,Act.put,setIfInBounds_toArray,set_cons_zero,set_cons_succ]; rfl)) (hJ7 (gb321) _ ⟨hHeld,(by (with_reducible repeat (first | apply Kd.V_alloc | apply Kd.V_drewN | apply Kd.V_drew)); exact Kd.V_mono HO_302000.out (fun _ hk => ⟨hk.1.1,⟨hk.1.2.1,⟨hk.1.2.2,hk.2⟩⟩⟩)),(kA BK301.out),(kA BK302.out),(kA BK321.out),GW321.out,GE321.out,NB301_321.out,NB321_301.out,NB302_321.out,NB321_302.out,bA⟩)
             ·skip
              refine box_step ?hg (N:=13) ?hd (cs := #[.string (⟨#[]⟩ : ByteArray),.int .i64 0,.string (⟨#[]⟩ : ByteArray)]) (t:=71) ?hr ?_; (case hd => rfl); (case hg => rfl); (case hr => first | (go_simp; done) | (go_simp; rfl))
              intro gb322 hg w65 hbox hb
              have n0_ := Aside0.mk (Kd.V_below (Kd.V_elderB (by (with_reducible repeat (first | apply Kd.V_alloc | apply Kd.V_drewN | apply Kd.V_drew)); exact HO_302000.out) gb322 (Nat.le_of_eq hg.symm)) hb)
              have n1_ := Aside0.mk (blk_below (g:=gb301) (o:=.cells #[.slice A0_0 l0_0.length c0_0,.int .i64 a0_1] 28 (0,0)) (kA BK301.out) hb)
              have n2_ := Aside0.mk (blk_below (g:=gb302) (o:=.cells #[.slice none 0 0,.int .i64 0] 28 (0,0)) (kA BK302.out) hb)
              have n3_ := Aside0.mk (below_step bA hb)
              have n4_ := Aside0.mk (hbox)
              have n5_ := Aside0.mk ((by rw [hg]; exact (below_size bA) : w.heap.size ≤ gb322))
              have n6_ := Aside0.mk ((by rw [hg]; exact (below_size bA) : w.heap.size ≤ gb322))
              have n7_ := Aside0.mk ((by rw [hg]; exact Nat.ne_of_lt (blk_lt (g:=gb301) (o:=.cells #[.slice A0_0 l0_0.length c0_0,.int .i64 a0_1] 28 (0,0)) (kA BK301.out)) : gb301 ≠ gb322))
              have n8_ := Aside0.mk ((by rw [hg]; exact Nat.ne_of_gt (blk_lt (g:=gb301) (o:=.cells #[.slice A0_0 l0_0.length c0_0,.int .i64 a0_1] 28 (0,0)) (kA BK301.out)) : gb322 ≠ gb301))
              have n9_ := Aside0.mk ((by rw [hg]; exact Nat.ne_of_lt (blk_lt (g:=gb302) (o:=.cells #[.slice none 0 0,.int .i64 0] 28 (0,0)) (kA BK302.out)) : gb302 ≠ gb322))
              have n10_ := Aside0.mk ((by rw [hg]; exact Nat.ne_of_gt (blk_lt (g:=gb302) (o:=.cells #[.slice none 0 0,.int .i64 0] 28 (0,0)) (kA BK302.out)) : gb322 ≠ gb302))
              clear HO_302000
              clear BK301
              clear BK302
              clear HB
              have HO_302000 := n0_
              have BK301 := n1_
              have BK302 := n2_
              have HB := n3_
              have BK322 := n4_
              have GW322 := n5_
              have GE322 := n6_
              have NB301_322 := n7_
              have NB322_301 := n8_
              have NB302_322 := n9_
              have NB322_302 := n10_
              clear n0_ n1_ n2_ n3_ n4_ n5_ n6_ n7_ n8_ n9_ n10_
              clear hb hbox hg
              refine hK.out _ _ ⟨(blk_cell BK301.out 0).trans rfl,(blk_cell BK301.out 1).trans rfl⟩ (fun hHeld => ?_)
              clear hK K
              refine norm_ (a':=?_) ?_ ?_
              rotate_left
              ·show Act.put _ (some 13) _ = _
               simp only [Act.put,setIfInBounds_toArray,set_cons_zero,set_cons_succ,i64_w,i32_w]
               rfl
              exact norm_ (by first | (simp only [putAll,Act.put,setIfInBounds_toArray,set_cons_zero,set_cons_succ]; done) | (simp only [putAll,Act.put,setIfInBounds_toArray,set_cons_zero,set_cons_succ]; rfl)) (hJ8 (gb322) _ ⟨hHeld,(by (with_reducible repeat (first | apply Kd.V_alloc | apply Kd.V_drewN | apply Kd.V_drew)); exact Kd.V_mono HO_302000.out (fun _ hk => ⟨hk.1.1,⟨hk.1.2.1,⟨hk.1.2.2,hk.2⟩⟩⟩)),(kA BK301.out),(kA BK302.out),(kA BK322.out),GW322.out,GE322.out,NB301_322.out,NB322_301.out,NB302_322.out,NB322_302.out,bA⟩)
            ·skip
             rintro gb322 w66 ⟨hS_,h0_,h1_,h2_,h3_,h4_,h5_,h6_,h7_,h8_,h9_,h10_⟩
             have n0_ : Aside0 (Kd.V k71 71 w66 w.heap.size (fun k_ => (P0_0_ k_ ∨ w.heap.size ≤ k_) ∧ k_ ≠ gb301 ∧ k_ ≠ gb302 ∧ k_ ≠ gb322) (.slice A0_0 l0_0.length c0_0) l0_0) := ⟨h0_⟩
             have n1_ : Aside0 (w66.heap[gb301]? = some (.cells #[.slice A0_0 l0_0.length c0_0,.int .i64 a0_1] 28 (0,0))) := ⟨h1_⟩
             have n2_ : Aside0 (w66.heap[gb302]? = some (.cells #[.slice none 0 0,.int .i64 0] 28 (0,0))) := ⟨h2_⟩
             have n3_ : Aside0 (w66.heap[gb322]? = some (.cells #[.string (⟨#[]⟩ : ByteArray),.int .i64 0,.string (⟨#[]⟩ : ByteArray)] 71 (0,0))) := ⟨h3_⟩
             have n4_ : Aside0 (w.heap.size ≤ gb322) := ⟨h4_⟩
             have n5_ : Aside0 (w.heap.size ≤ gb322) := ⟨h5_⟩
             have n6_ : Aside0 (gb301 ≠ gb322) := ⟨h6_⟩
             have n7_ : Aside0 (gb322 ≠ gb301) := ⟨h7_⟩
             have n8_ : Aside0 (gb302 ≠ gb322) := ⟨h8_⟩
             have n9_ : Aside0 (gb322 ≠ gb302) := ⟨h9_⟩
             have n10_ : Aside0 (Below w.heap.size w w66) := ⟨h10_⟩
             clear HO_302000
             clear BK301
             clear BK302
             clear HB
             clear h0_ h1_ h2_ h3_ h4_ h5_ h6_ h7_ h8_ h9_ h10_
             have HO_302000 := n0_
             have BK301 := n1_
             have BK302 := n2_
             have BK322 := n3_
             have GW322 := n4_
             have GE322 := n5_
             have NB301_322 := n6_
             have NB322_301 := n7_
             have NB302_322 := n8_
             have NB322_302 := n9_
             have HB := n10_
             clear n0_ n1_ n2_ n3_ n4_ n5_ n6_ n7_ n8_ n9_ n10_
             have hHeld : w66.cell? ⟨gb301,0,none⟩ = some (.slice A0_0 l0_0.length c0_0) ∧ w66.cell? ⟨gb301,1,none⟩ = some (.int .i64 a0_1) := hS_
             refine norm_ (a':=?_) ?_ ?_
             rotate_left
             ·simp only [putAll,Act.put,setIfInBounds_toArray,set_cons_zero,set_cons_succ]
              rfl
             refine two_ (i:=1) (j:=7) (Ni := some 47) (Nj := some 12) (bm 11 383) (bm 11 509) rfl rfl rfl rfl (two_of HT_.out (by kernel_rfl)) (by decide) (by decide) (fun K hK => ?_) (fun K hK => ?_)
             ·skip
              refine goes_ Try.func32 (by kernel_rfl) rfl #[.agg #[.slice A0_0 l0_0.length c0_0,.int .i64 a0_1]] (by rfl) rfl rfl mA ?_
              with_reducible refine (impl_Store_copied.calls _ _ l0_0 a0_1 t317 t320 _ ?side1 ?side2 A32.out).mono ?_
              (case side1 => repeat (first | exact (Kd.V_reads' HO_302000.out).2.2 | (with_reducible refine Kd.C_alloc ?_ _) | (with_reducible refine Kd.C_drewN ?_ _) | (with_reducible refine Kd.C_drew ?_)))
              (case side2 => exact (Kd.V_reads' HO_302000.out).2.1)
              rintro e w67 ⟨v318,rfl,ho0,hb⟩
              refine ⟨_,rfl,?_⟩
              have n0_ := Aside0.mk (Kd.V_elder' (by (with_reducible repeat (first | apply Kd.V_alloc | apply Kd.V_drewN | apply Kd.V_drew)); exact HO_302000.out) (Kd.R_base ho0) hb)
              have n1_ := Aside0.mk (Kd.R_lower (Kd.R_newB (Kd.R_newM (M:=fun k_ => (w.heap.size ≤ k_)) ho0 (below_size bA) (fun k_ h_ => h_)) (g:=gb322) (o:=.cells #[.string (⟨#[]⟩ : ByteArray),.int .i64 0,.string (⟨#[]⟩ : ByteArray)] 71 (0,0)) (kA BK322.out)) (below_size bA))
              have n2_ := Aside0.mk (blk_below (g:=gb301) (o:=.cells #[.slice A0_0 l0_0.length c0_0,.int .i64 a0_1] 28 (0,0)) (kA BK301.out) hb)
              have n3_ := Aside0.mk (blk_below (g:=gb302) (o:=.cells #[.slice none 0 0,.int .i64 0] 28 (0,0)) (kA BK302.out) hb)
              have n4_ := Aside0.mk (blk_below (g:=gb322) (o:=.cells #[.string (⟨#[]⟩ : ByteArray),.int .i64 0,.string (⟨#[]⟩ : ByteArray)] 71 (0,0)) (kA BK322.out) hb)
              have n5_ := Aside0.mk (below_step bA hb)
              clear HO_302000
              clear BK301
              clear BK302
              clear BK322
              clear HB
              have HO_302000 := n0_
              have HO319 := n1_
              have BK301 := n2_
              have BK302 := n3_
              have BK322 := n4_
              have HB := n5_
              clear n0_ n1_ n2_ n3_ n4_ n5_
              (try clear hb)
              (try clear hb2)
              (try clear hk)
              (try clear hi)
              (try clear ho0)
              refine hK.out _ _ ⟨(blk_cell BK301.out 0).trans rfl,(blk_cell BK301.out 1).trans rfl⟩ (fun hHeld => ?_)
              clear hK K
              refine norm_ (a':=?_) ?_ ?_
              rotate_left
              ·show Act.put _ (some 47) _ = _
               simp only [Act.put,setIfInBounds_toArray,set_cons_zero,set_cons_succ,i64_w,i32_w]
               rfl
              exact norm_ (by first | (simp only [putAll,Act.put,setIfInBounds_toArray,set_cons_zero,set_cons_succ]; done) | (simp only [putAll,Act.put,setIfInBounds_toArray,set_cons_zero,set_cons_succ]; rfl)) (hJ1_8 (v318,gb322) _ ⟨hHeld,(by (with_reducible repeat (first | apply Kd.R_alloc | apply Kd.R_drewN | apply Kd.R_drew)); exact Kd.R_mono HO319.out (fun _ hk => ⟨hk.1.1,hk.2⟩)),(by (with_reducible repeat (first | apply Kd.V_alloc | apply Kd.V_drewN | apply Kd.V_drew)); exact Kd.V_mono HO_302000.out (fun _ hk => ⟨hk.1.1,⟨hk.2,⟨hk.1.2.1,⟨hk.1.2.2.1,hk.1.2.2.2⟩⟩⟩⟩)),(kA BK301.out),(kA BK302.out),(kA BK322.out),GW322.out,GE322.out,NB301_322.out,NB322_301.out,NB302_322.out,NB322_302.out,bA⟩)
             ·skip
              refine box_step ?hg (N:=12) ?hd (cs := #[.slice none 0 0,.int .i64 0]) (t:=28) ?hr ?_; (case hd => rfl); (case hg => rfl); (case hr => first | (go_simp; done) | (go_simp; rfl))
              intro gb321 hg w67 hbox hb
              have n0_ := Aside0.mk (Kd.V_below (Kd.V_elderB (by (with_reducible repeat (first | apply Kd.V_alloc | apply Kd.V_drewN | apply Kd.V_drew)); exact HO_302000.out) gb321 (Nat.le_of_eq hg.symm)) hb)
              have n1_ := Aside0.mk (blk_below (g:=gb301) (o:=.cells #[.slice A0_0 l0_0.length c0_0,.int .i64 a0_1] 28 (0,0)) (kA BK301.out) hb)
              have n2_ := Aside0.mk (blk_below (g:=gb302) (o:=.cells #[.slice none 0 0,.int .i64 0] 28 (0,0)) (kA BK302.out) hb)
              have n3_ := Aside0.mk (blk_below (g:=gb322) (o:=.cells #[.string (⟨#[]⟩ : ByteArray),.int .i64 0,.string (⟨#[]⟩ : ByteArray)] 71 (0,0)) (kA BK322.out) hb)
              have n4_ := Aside0.mk (below_step bA hb)
              have n5_ := Aside0.mk (hbox)
              have n6_ := Aside0.mk ((by rw [hg]; exact (below_size bA) : w.heap.size ≤ gb321))
              have n7_ := Aside0.mk ((by rw [hg]; exact (below_size bA) : w.heap.size ≤ gb321))
              have n8_ := Aside0.mk ((by rw [hg]; exact Nat.ne_of_lt (blk_lt (g:=gb301) (o:=.cells #[.slice A0_0 l0_0.length c0_0,.int .i64 a0_1] 28 (0,0)) (kA BK301.out)) : gb301 ≠ gb321))
              have n9_ := Aside0.mk ((by rw [hg]; exact Nat.ne_of_gt (blk_lt (g:=gb301) (o:=.cells #[.slice A0_0 l0_0.length c0_0,.int .i64 a0_1] 28 (0,0)) (kA BK301.out)) : gb321 ≠ gb301))
              have n10_ := Aside0.mk ((by rw [hg]; exact Nat.ne_of_lt (blk_lt (g:=gb302) (o:=.cells #[.slice none 0 0,.int .i64 0] 28 (0,0)) (kA BK302.out)) : gb302 ≠ gb321))
              have n11_ := Aside0.mk ((by rw [hg]; exact Nat.ne_of_gt (blk_lt (g:=gb302) (o:=.cells #[.slice none 0 0,.int .i64 0] 28 (0,0)) (kA BK302.out)) : gb321 ≠ gb302))
              have n12_ := Aside0.mk ((by rw [hg]; exact Nat.ne_of_lt (blk_lt (g:=gb322) (o:=.cells #[.string (⟨#[]⟩ : ByteArray),.int .i64 0,.string (⟨#[]⟩ : ByteArray)] 71 (0,0)) (kA BK322.out)) : gb322 ≠ gb321))
              have n13_ := Aside0.mk ((by rw [hg]; exact Nat.ne_of_gt (blk_lt (g:=gb322) (o:=.cells #[.string (⟨#[]⟩ : ByteArray),.int .i64 0,.string (⟨#[]⟩ : ByteArray)] 71 (0,0)) (kA BK322.out)) : gb321 ≠ gb322))
              clear HO_302000
              clear BK301
              clear BK302
              clear BK322
              clear HB
              have HO_302000 := n0_
              have BK301 := n1_
              have BK302 := n2_
              have BK322 := n3_
              have HB := n4_
              have BK321 := n5_
              have GW321 := n6_
              have GE321 := n7_
              have NB301_321 := n8_
              have NB321_301 := n9_
              have NB302_321 := n10_
              have NB321_302 := n11_
              have NB322_321 := n12_
              have NB321_322 := n13_
              clear n0_ n1_ n2_ n3_ n4_ n5_ n6_ n7_ n8_ n9_ n10_ n11_ n12_ n13_
              clear hb hbox hg
              refine hK.out _ _ ⟨(blk_cell BK301.out 0).trans rfl,(blk_cell BK301.out 1).trans rfl⟩ (fun hHeld => ?_)
              clear hK K
              refine norm_ (a':=?_) ?_ ?_
              rotate_left
              ·show Act.put _ (some 12) _ = _
               simp only [Act.put,setIfInBounds_toArray,set_cons_zero,set_cons_succ,i64_w,i32_w]
               rfl
              exact norm_ (by first | (simp only [putAll,Act.put,setIfInBounds_toArray,set_cons_zero,set_cons_succ]; done) | (simp only [putAll,Act.put,setIfInBounds_toArray,set_cons_zero,set_cons_succ]; rfl)) (hJ7_8 (gb321,gb322) _ ⟨hHeld,(by (with_reducible repeat (first | apply Kd.V_alloc | apply Kd.V_drewN | apply Kd.V_drew)); exact Kd.V_mono HO_302000.out (fun _ hk => ⟨hk.1.1,⟨hk.1.2.1,⟨hk.1.2.2.1,⟨hk.2,hk.1.2.2.2⟩⟩⟩⟩)),(kA BK301.out),(kA BK302.out),(kA BK321.out),(kA BK322.out),GW321.out,GE321.out,NB301_321.out,NB321_301.out,NB302_321.out,NB321_302.out,NB322_321.out,NB321_322.out,GW322.out,GE322.out,NB301_322.out,NB322_301.out,NB302_322.out,NB322_302.out,bA⟩)
           ·skip
            rintro gb321 w66 ⟨hS_,h0_,h1_,h2_,h3_,h4_,h5_,h6_,h7_,h8_,h9_,h10_⟩
            have n0_ : Aside0 (Kd.V k71 71 w66 w.heap.size (fun k_ => (P0_0_ k_ ∨ w.heap.size ≤ k_) ∧ k_ ≠ gb301 ∧ k_ ≠ gb302 ∧ k_ ≠ gb321) (.slice A0_0 l0_0.length c0_0) l0_0) := ⟨h0_⟩
            have n1_ : Aside0 (w66.heap[gb301]? = some (.cells #[.slice A0_0 l0_0.length c0_0,.int .i64 a0_1] 28 (0,0))) := ⟨h1_⟩
            have n2_ : Aside0 (w66.heap[gb302]? = some (.cells #[.slice none 0 0,.int .i64 0] 28 (0,0))) := ⟨h2_⟩
            have n3_ : Aside0 (w66.heap[gb321]? = some (.cells #[.slice none 0 0,.int .i64 0] 28 (0,0))) := ⟨h3_⟩
            have n4_ : Aside0 (w.heap.size ≤ gb321) := ⟨h4_⟩
            have n5_ : Aside0 (w.heap.size ≤ gb321) := ⟨h5_⟩
            have n6_ : Aside0 (gb301 ≠ gb321) := ⟨h6_⟩
            have n7_ : Aside0 (gb321 ≠ gb301) := ⟨h7_⟩
            have n8_ : Aside0 (gb302 ≠ gb321) := ⟨h8_⟩
            have n9_ : Aside0 (gb321 ≠ gb302) := ⟨h9_⟩
            have n10_ : Aside0 (Below w.heap.size w w66) := ⟨h10_⟩
            clear HO_302000
            clear BK301
            clear BK302
            clear HB
            clear h0_ h1_ h2_ h3_ h4_ h5_ h6_ h7_ h8_ h9_ h10_
            have HO_302000 := n0_
            have BK301 := n1_
            have BK302 := n2_
            have BK321 := n3_
            have GW321 := n4_
            have GE321 := n5_
            have NB301_321 := n6_
            have NB321_301 := n7_
            have NB302_321 := n8_
            have NB321_302 := n9_
            have HB := n10_
            clear n0_ n1_ n2_ n3_ n4_ n5_ n6_ n7_ n8_ n9_ n10_
            have hHeld : w66.cell? ⟨gb301,0,none⟩ = some (.slice A0_0 l0_0.length c0_0) ∧ w66.cell? ⟨gb301,1,none⟩ = some (.int .i64 a0_1) := hS_
            refine norm_ (a':=?_) ?_ ?_
            rotate_left
            ·simp only [putAll,Act.put,setIfInBounds_toArray,set_cons_zero,set_cons_succ]
             rfl
            refine two_ (i:=1) (j:=8) (Ni := some 47) (Nj := some 13) (bm 11 255) (bm 11 509) rfl rfl rfl rfl (two_of HT_.out (by kernel_rfl)) (by decide) (by decide) (fun K hK => ?_) (fun K hK => ?_)
            ·skip
             refine goes_ Try.func32 (by kernel_rfl) rfl #[.agg #[.slice A0_0 l0_0.length c0_0,.int .i64 a0_1]] (by rfl) rfl rfl mA ?_
             with_reducible refine (impl_Store_copied.calls _ _ l0_0 a0_1 t317 t320 _ ?side1 ?side2 A32.out).mono ?_
             (case side1 => repeat (first | exact (Kd.V_reads' HO_302000.out).2.2 | (with_reducible refine Kd.C_alloc ?_ _) | (with_reducible refine Kd.C_drewN ?_ _) | (with_reducible refine Kd.C_drew ?_)))
             (case side2 => exact (Kd.V_reads' HO_302000.out).2.1)
             rintro e w67 ⟨v318,rfl,ho0,hb⟩
             refine ⟨_,rfl,?_⟩
             have n0_ := Aside0.mk (Kd.V_elder' (by (with_reducible repeat (first | apply Kd.V_alloc | apply Kd.V_drewN | apply Kd.V_drew)); exact HO_302000.out) (Kd.R_base ho0) hb)
             have n1_ := Aside0.mk (Kd.R_lower (Kd.R_newM (M:=fun k_ => (w.heap.size ≤ k_)) ho0 (below_size bA) (fun k_ h_ => h_)) (below_size bA))
             have n2_ := Aside0.mk (blk_below (g:=gb301) (o:=.cells #[.slice A0_0 l0_0.length c0_0,.int .i64 a0_1] 28 (0,0)) (kA BK301.out) hb)
             have n3_ := Aside0.mk (blk_below (g:=gb302) (o:=.cells #[.slice none 0 0,.int .i64 0] 28 (0,0)) (kA BK302.out) hb)
             have n4_ := Aside0.mk (blk_below (g:=gb321) (o:=.cells #[.slice none 0 0,.int .i64 0] 28 (0,0)) (kA BK321.out) hb)
             have n5_ := Aside0.mk (below_step bA hb)
             clear HO_302000
             clear BK301
             clear BK302
             clear BK321
             clear HB
             have HO_302000 := n0_
             have HO319 := n1_
             have BK301 := n2_
             have BK302 := n3_
             have BK321 := n4_
             have HB := n5_
             clear n0_ n1_ n2_ n3_ n4_ n5_
             (try clear hb)
             (try clear hb2)
             (try clear hk)
             (try clear hi)
             (try clear ho0)
             refine hK.out _ _ ⟨(blk_cell BK301.out 0).trans rfl,(blk_cell BK301.out 1).trans rfl⟩ (fun hHeld => ?_)
             clear hK K
             refine norm_ (a':=?_) ?_ ?_
             rotate_left
             ·show Act.put _ (some 47) _ = _
              simp only [Act.put,setIfInBounds_toArray,set_cons_zero,set_cons_succ,i64_w,i32_w]
              rfl
             exact norm_ (by first | (simp only [putAll,Act.put,setIfInBounds_toArray,set_cons_zero,set_cons_succ]; done) | (simp only [putAll,Act.put,setIfInBounds_toArray,set_cons_zero,set_cons_succ]; rfl)) (hJ1_7 (v318,gb321) _ ⟨hHeld,(by (with_reducible repeat (first | apply Kd.R_alloc | apply Kd.R_drewN | apply Kd.R_drew)); exact Kd.R_mono HO319.out (fun _ hk => hk.1)),(by (with_reducible repeat (first | apply Kd.V_alloc | apply Kd.V_drewN | apply Kd.V_drew)); exact Kd.V_mono HO_302000.out (fun _ hk => ⟨hk.1.1,⟨hk.2,⟨hk.1.2.1,⟨hk.1.2.2.1,hk.1.2.2.2⟩⟩⟩⟩)),(kA BK301.out),(kA BK302.out),(kA BK321.out),GW321.out,GE321.out,NB301_321.out,NB321_301.out,NB302_321.out,NB321_302.out,bA⟩)
            ·skip
             refine box_step ?hg (N:=13) ?hd (cs := #[.string (⟨#[]⟩ : ByteArray),.int .i64 0,.string (⟨#[]⟩ : ByteArray)]) (t:=71) ?hr ?_; (case hd => rfl); (case hg => rfl); (case hr => first | (go_simp; done) | (go_simp; rfl))
             intro gb322 hg w67 hbox hb
             have n0_ := Aside0.mk (Kd.V_below (Kd.V_elderB (by (with_reducible repeat (first | apply Kd.V_alloc | apply Kd.V_drewN | apply Kd.V_drew)); exact HO_302000.out) gb322 (Nat.le_of_eq hg.symm)) hb)
             have n1_ := Aside0.mk (blk_below (g:=gb301) (o:=.cells #[.slice A0_0 l0_0.length c0_0,.int .i64 a0_1] 28 (0,0)) (kA BK301.out) hb)
             have n2_ := Aside0.mk (blk_below (g:=gb302) (o:=.cells #[.slice none 0 0,.int .i64 0] 28 (0,0)) (kA BK302.out) hb)
             have n3_ := Aside0.mk (blk_below (g:=gb321) (o:=.cells #[.slice none 0 0,.int .i64 0] 28 (0,0)) (kA BK321.out) hb)
             have n4_ := Aside0.mk (below_step bA hb)
             have n5_ := Aside0.mk (hbox)
             have n6_ := Aside0.mk ((by rw [hg]; exact (below_size bA) : w.heap.size ≤ gb322))
             have n7_ := Aside0.mk ((by rw [hg]; exact (below_size bA) : w.heap.size ≤ gb322))
             have n8_ := Aside0.mk ((by rw [hg]; exact Nat.ne_of_lt (blk_lt (g:=gb301) (o:=.cells #[.slice A0_0 l0_0.length c0_0,.int .i64 a0_1] 28 (0,0)) (kA BK301.out)) : gb301 ≠ gb322))
             have n9_ := Aside0.mk ((by rw [hg]; exact Nat.ne_of_gt (blk_lt (g:=gb301) (o:=.cells #[.slice A0_0 l0_0.length c0_0,.int .i64 a0_1] 28 (0,0)) (kA BK301.out)) : gb322 ≠ gb301))
             have n10_ := Aside0.mk ((by rw [hg]; exact Nat.ne_of_lt (blk_lt (g:=gb302) (o:=.cells #[.slice none 0 0,.int .i64 0] 28 (0,0)) (kA BK302.out)) : gb302 ≠ gb322))
             have n11_ := Aside0.mk ((by rw [hg]; exact Nat.ne_of_gt (blk_lt (g:=gb302) (o:=.cells #[.slice none 0 0,.int .i64 0] 28 (0,0)) (kA BK302.out)) : gb322 ≠ gb302))
             have n12_ := Aside0.mk ((by rw [hg]; exact Nat.ne_of_lt (blk_lt (g:=gb321) (o:=.cells #[.slice none 0 0,.int .i64 0] 28 (0,0)) (kA BK321.out)) : gb321 ≠ gb322))
             have n13_ := Aside0.mk ((by rw [hg]; exact Nat.ne_of_gt (blk_lt (g:=gb321) (o:=.cells #[.slice none 0 0,.int .i64 0] 28 (0,0)) (kA BK321.out)) : gb322 ≠ gb321))
             clear HO_302000
             clear BK301
             clear BK302
             clear BK321
             clear HB
             have HO_302000 := n0_
             have BK301 := n1_
             have BK302 := n2_
             have BK321 := n3_
             have HB := n4_
             have BK322 := n5_
             have GW322 := n6_
             have GE322 := n7_
             have NB301_322 := n8_
             have NB322_301 := n9_
             have NB302_322 := n10_
             have NB322_302 := n11_
             have NB321_322 := n12_
             have NB322_321 := n13_
             clear n0_ n1_ n2_ n3_ n4_ n5_ n6_ n7_ n8_ n9_ n10_ n11_ n12_ n13_
             clear hb hbox hg
             refine hK.out _ _ ⟨(blk_cell BK301.out 0).trans rfl,(blk_cell BK301.out 1).trans rfl⟩ (fun hHeld => ?_)
             clear hK K
             refine norm_ (a':=?_) ?_ ?_
             rotate_left
             ·show Act.put _ (some 13) _ = _
              simp only [Act.put,setIfInBounds_toArray,set_cons_zero,set_cons_succ,i64_w,i32_w]
              rfl
             exact norm_ (by first | (simp only [putAll,Act.put,setIfInBounds_toArray,set_cons_zero,set_cons_succ]; done) | (simp only [putAll,Act.put,setIfInBounds_toArray,set_cons_zero,set_cons_succ]; rfl)) (hJ7_8 (gb321,gb322) _ ⟨hHeld,(by (with_reducible repeat (first | apply Kd.V_alloc | apply Kd.V_drewN | apply Kd.V_drew)); exact Kd.V_mono HO_302000.out (fun _ hk => ⟨hk.1.1,⟨hk.1.2.1,⟨hk.1.2.2.1,⟨hk.1.2.2.2,hk.2⟩⟩⟩⟩)),(kA BK301.out),(kA BK302.out),(kA BK321.out),(kA BK322.out),GW321.out,GE321.out,NB301_321.out,NB321_301.out,NB302_321.out,NB321_302.out,NB322_321.out,NB321_322.out,GW322.out,GE322.out,NB301_322.out,NB322_301.out,NB302_322.out,NB322_302.out,bA⟩)
          ·skip
           rintro v318 w66 ⟨hS_,h0_,h1_,h2_,h3_,h4_⟩
           have n0_ : Aside0 (Kd.R k71 71 w66 w.heap.size (fun k_ => (w.heap.size ≤ k_)) v318 t317) := ⟨h0_⟩
           have n1_ : Aside0 (Kd.V k71 71 w66 w.heap.size (fun k_ => (P0_0_ k_ ∨ w.heap.size ≤ k_) ∧ some k_ ≠ (v318 : Value).ownBlock ∧ k_ ≠ gb301 ∧ k_ ≠ gb302) (.slice A0_0 l0_0.length c0_0) l0_0) := ⟨h1_⟩
           have n2_ : Aside0 (w66.heap[gb301]? = some (.cells #[.slice A0_0 l0_0.length c0_0,.int .i64 a0_1] 28 (0,0))) := ⟨h2_⟩
           have n3_ : Aside0 (w66.heap[gb302]? = some (.cells #[.slice none 0 0,.int .i64 0] 28 (0,0))) := ⟨h3_⟩
           have n4_ : Aside0 (Below w.heap.size w w66) := ⟨h4_⟩
           clear HO_302000
           clear BK301
           clear BK302
           clear HB
           clear h0_ h1_ h2_ h3_ h4_
           have HO319 := n0_
           have HO_302000 := n1_
           have BK301 := n2_
           have BK302 := n3_
           have HB := n4_
           clear n0_ n1_ n2_ n3_ n4_
           have hHeld : w66.cell? ⟨gb301,0,none⟩ = some (.slice A0_0 l0_0.length c0_0) ∧ w66.cell? ⟨gb301,1,none⟩ = some (.int .i64 a0_1) := hS_
           refine norm_ (a':=?_) ?_ ?_
           rotate_left
           ·simp only [putAll,Act.put,setIfInBounds_toArray,set_cons_zero,set_cons_succ]
            rfl
           refine two_ (i:=7) (j:=8) (Ni := some 12) (Nj := some 13) (bm 11 255) (bm 11 383) rfl rfl rfl rfl (two_of HT_.out (by kernel_rfl)) (by decide) (by decide) (fun K hK => ?_) (fun K hK => ?_)
           ·skip
            refine box_step ?hg (N:=12) ?hd (cs := #[.slice none 0 0,.int .i64 0]) (t:=28) ?hr ?_; (case hd => rfl); (case hg => rfl); (case hr => first | (go_simp; done) | (go_simp; rfl))
            intro gb321 hg w67 hbox hb
            have n0_ := Aside0.mk (Kd.V_below (Kd.V_elderB (by (with_reducible repeat (first | apply Kd.V_alloc | apply Kd.V_drewN | apply Kd.V_drew)); exact HO_302000.out) gb321 (Nat.le_of_eq hg.symm)) hb)
            have n1_ := Aside0.mk (Kd.R_below (rA HO319.out) hb)
            have n2_ := Aside0.mk (blk_below (g:=gb301) (o:=.cells #[.slice A0_0 l0_0.length c0_0,.int .i64 a0_1] 28 (0,0)) (kA BK301.out) hb)
            have n3_ := Aside0.mk (blk_below (g:=gb302) (o:=.cells #[.slice none 0 0,.int .i64 0] 28 (0,0)) (kA BK302.out) hb)
            have n4_ := Aside0.mk (below_step bA hb)
            have n5_ := Aside0.mk (hbox)
            have n6_ := Aside0.mk ((by rw [hg]; exact (below_size bA) : w.heap.size ≤ gb321))
            have n7_ := Aside0.mk ((by rw [hg]; exact (below_size bA) : w.heap.size ≤ gb321))
            have n8_ := Aside0.mk ((by rw [hg]; exact Nat.ne_of_lt (blk_lt (g:=gb301) (o:=.cells #[.slice A0_0 l0_0.length c0_0,.int .i64 a0_1] 28 (0,0)) (kA BK301.out)) : gb301 ≠ gb321))
            have n9_ := Aside0.mk ((by rw [hg]; exact Nat.ne_of_gt (blk_lt (g:=gb301) (o:=.cells #[.slice A0_0 l0_0.length c0_0,.int .i64 a0_1] 28 (0,0)) (kA BK301.out)) : gb321 ≠ gb301))
            have n10_ := Aside0.mk ((by rw [hg]; exact Nat.ne_of_lt (blk_lt (g:=gb302) (o:=.cells #[.slice none 0 0,.int .i64 0] 28 (0,0)) (kA BK302.out)) : gb302 ≠ gb321))
            have n11_ := Aside0.mk ((by rw [hg]; exact Nat.ne_of_gt (blk_lt (g:=gb302) (o:=.cells #[.slice none 0 0,.int .i64 0] 28 (0,0)) (kA BK302.out)) : gb321 ≠ gb302))
            clear HO_302000
            clear HO319
            clear BK301
            clear BK302
            clear HB
            have HO_302000 := n0_
            have HO319 := n1_
            have BK301 := n2_
            have BK302 := n3_
            have HB := n4_
            have BK321 := n5_
            have GW321 := n6_
            have GE321 := n7_
            have NB301_321 := n8_
            have NB321_301 := n9_
            have NB302_321 := n10_
            have NB321_302 := n11_
            clear n0_ n1_ n2_ n3_ n4_ n5_ n6_ n7_ n8_ n9_ n10_ n11_
            clear hb hbox hg
            refine hK.out _ _ ⟨(blk_cell BK301.out 0).trans rfl,(blk_cell BK301.out 1).trans rfl⟩ (fun hHeld => ?_)
            clear hK K
            refine norm_ (a':=?_) ?_ ?_
            rotate_left
            ·show Act.put _ (some 12) _ = _
             simp only [Act.put,setIfInBounds_toArray,set_cons_zero,set_cons_succ,i64_w,i32_w]
             rfl
            exact norm_ (by first | (simp only [putAll,Act.put,setIfInBounds_toArray,set_cons_zero,set_cons_succ]; done) | (simp only [putAll,Act.put,setIfInBounds_toArray,set_cons_zero,set_cons_succ]; rfl)) (hJ1_7 (v318,gb321) _ ⟨hHeld,(rA HO319.out),(by (with_reducible repeat (first | apply Kd.V_alloc | apply Kd.V_drewN | apply Kd.V_drew)); exact Kd.V_mono HO_302000.out (fun _ hk => ⟨hk.1.1,⟨hk.1.2.1,⟨hk.1.2.2.1,⟨hk.1.2.2.2,hk.2⟩⟩⟩⟩)),(kA BK301.out),(kA BK302.out),(kA BK321.out),GW321.out,GE321.out,NB301_321.out,NB321_301.out,NB302_321.out,NB321_302.out,bA⟩)
           ·skip
            refine box_step ?hg (N:=13) ?hd (cs := #[.string (⟨#[]⟩ : ByteArray),.int .i64 0,.string (⟨#[]⟩ : ByteArray)]) (t:=71) ?hr ?_; (case hd => rfl); (case hg => rfl); (case hr => first | (go_simp; done) | (go_simp; rfl))
            intro gb322 hg w67 hbox hb
            have n0_ := Aside0.mk (Kd.V_below (Kd.V_elderB (by (with_reducible repeat (first | apply Kd.V_alloc | apply Kd.V_drewN | apply Kd.V_drew)); exact HO_302000.out) gb322 (Nat.le_of_eq hg.symm)) hb)
            have n1_ := Aside0.mk (Kd.R_below (Kd.R_elderB (rA HO319.out) gb322 (Nat.le_of_eq hg.symm)) hb)
            have n2_ := Aside0.mk (blk_below (g:=gb301) (o:=.cells #[.slice A0_0 l0_0.length c0_0,.int .i64 a0_1] 28 (0,0)) (kA BK301.out) hb)
            have n3_ := Aside0.mk (blk_below (g:=gb302) (o:=.cells #[.slice none 0 0,.int .i64 0] 28 (0,0)) (kA BK302.out) hb)
            have n4_ := Aside0.mk (below_step bA hb)
            have n5_ := Aside0.mk (hbox)
            have n6_ := Aside0.mk ((by rw [hg]; exact (below_size bA) : w.heap.size ≤ gb322))
            have n7_ := Aside0.mk ((by rw [hg]; exact (below_size bA) : w.heap.size ≤ gb322))
            have n8_ := Aside0.mk ((by rw [hg]; exact Nat.ne_of_lt (blk_lt (g:=gb301) (o:=.cells #[.slice A0_0 l0_0.length c0_0,.int .i64 a0_1] 28 (0,0)) (kA BK301.out)) : gb301 ≠ gb322))
            have n9_ := Aside0.mk ((by rw [hg]; exact Nat.ne_of_gt (blk_lt (g:=gb301) (o:=.cells #[.slice A0_0 l0_0.length c0_0,.int .i64 a0_1] 28 (0,0)) (kA BK301.out)) : gb322 ≠ gb301))
            have n10_ := Aside0.mk ((by rw [hg]; exact Nat.ne_of_lt (blk_lt (g:=gb302) (o:=.cells #[.slice none 0 0,.int .i64 0] 28 (0,0)) (kA BK302.out)) : gb302 ≠ gb322))
            have n11_ := Aside0.mk ((by rw [hg]; exact Nat.ne_of_gt (blk_lt (g:=gb302) (o:=.cells #[.slice none 0 0,.int .i64 0] 28 (0,0)) (kA BK302.out)) : gb322 ≠ gb302))
            clear HO_302000
            clear HO319
            clear BK301
            clear BK302
            clear HB
            have HO_302000 := n0_
            have HO319 := n1_
            have BK301 := n2_
            have BK302 := n3_
            have HB := n4_
            have BK322 := n5_
            have GW322 := n6_
            have GE322 := n7_
            have NB301_322 := n8_
            have NB322_301 := n9_
            have NB302_322 := n10_
            have NB322_302 := n11_
            clear n0_ n1_ n2_ n3_ n4_ n5_ n6_ n7_ n8_ n9_ n10_ n11_
            clear hb hbox hg
            refine hK.out _ _ ⟨(blk_cell BK301.out 0).trans rfl,(blk_cell BK301.out 1).trans rfl⟩ (fun hHeld => ?_)
            clear hK K
            refine norm_ (a':=?_) ?_ ?_
            rotate_left
            ·show Act.put _ (some 13) _ = _
             simp only [Act.put,setIfInBounds_toArray,set_cons_zero,set_cons_succ,i64_w,i32_w]
             rfl
            exact norm_ (by first | (simp only [putAll,Act.put,setIfInBounds_toArray,set_cons_zero,set_cons_succ]; done) | (simp only [putAll,Act.put,setIfInBounds_toArray,set_cons_zero,set_cons_succ]; rfl)) (hJ1_8 (v318,gb322) _ ⟨hHeld,(rA HO319.out),(by (with_reducible repeat (first | apply Kd.V_alloc | apply Kd.V_drewN | apply Kd.V_drew)); exact Kd.V_mono HO_302000.out (fun _ hk => ⟨hk.1.1,⟨hk.1.2.1,⟨hk.1.2.2.1,⟨hk.1.2.2.2,hk.2⟩⟩⟩⟩)),(kA BK301.out),(kA BK302.out),(kA BK322.out),GW322.out,GE322.out,NB301_322.out,NB322_301.out,NB302_322.out,NB322_302.out,bA⟩)
         ·skip
          rintro ⟨gb321,gb322⟩ w67 ⟨hS_,h0_,h1_,h2_,h3_,h4_,h5_,h6_,h7_,h8_,h9_,h10_,h11_,h12_,h13_,h14_,h15_,h16_,h17_,h18_,h19_⟩
          have n0_ : Aside0 (Kd.V k71 71 w67 w.heap.size (fun k_ => (P0_0_ k_ ∨ w.heap.size ≤ k_) ∧ k_ ≠ gb301 ∧ k_ ≠ gb302 ∧ k_ ≠ gb321 ∧ k_ ≠ gb322) (.slice A0_0 l0_0.length c0_0) l0_0) := ⟨h0_⟩
          have n1_ : Aside0 (w67.heap[gb301]? = some (.cells #[.slice A0_0 l0_0.length c0_0,.int .i64 a0_1] 28 (0,0))) := ⟨h1_⟩
          have n2_ : Aside0 (w67.heap[gb302]? = some (.cells #[.slice none 0 0,.int .i64 0] 28 (0,0))) := ⟨h2_⟩
          have n3_ : Aside0 (w67.heap[gb321]? = some (.cells #[.slice none 0 0,.int .i64 0] 28 (0,0))) := ⟨h3_⟩
          have n4_ : Aside0 (w67.heap[gb322]? = some (.cells #[.string (⟨#[]⟩ : ByteArray),.int .i64 0,.string (⟨#[]⟩ : ByteArray)] 71 (0,0))) := ⟨h4_⟩
          have n5_ : Aside0 (w.heap.size ≤ gb321) := ⟨h5_⟩
          have n6_ : Aside0 (w.heap.size ≤ gb321) := ⟨h6_⟩
          have n7_ : Aside0 (gb301 ≠ gb321) := ⟨h7_⟩
          have n8_ : Aside0 (gb321 ≠ gb301) := ⟨h8_⟩
          have n9_ : Aside0 (gb302 ≠ gb321) := ⟨h9_⟩
          have n10_ : Aside0 (gb321 ≠ gb302) := ⟨h10_⟩
          have n11_ : Aside0 (gb322 ≠ gb321) := ⟨h11_⟩
          have n12_ : Aside0 (gb321 ≠ gb322) := ⟨h12_⟩
          have n13_ : Aside0 (w.heap.size ≤ gb322) := ⟨h13_⟩
          have n14_ : Aside0 (w.heap.size ≤ gb322) := ⟨h14_⟩
          have n15_ : Aside0 (gb301 ≠ gb322) := ⟨h15_⟩
          have n16_ : Aside0 (gb322 ≠ gb301) := ⟨h16_⟩
          have n17_ : Aside0 (gb302 ≠ gb322) := ⟨h17_⟩
          have n18_ : Aside0 (gb322 ≠ gb302) := ⟨h18_⟩
          have n19_ : Aside0 (Below w.heap.size w w67) := ⟨h19_⟩
          clear HO_302000
          clear BK301
          clear BK302
          clear HB
          clear h0_ h1_ h2_ h3_ h4_ h5_ h6_ h7_ h8_ h9_ h10_ h11_ h12_ h13_ h14_ h15_ h16_ h17_ h18_ h19_
          have HO_302000 := n0_
          have BK301 := n1_
          have BK302 := n2_
          have BK321 := n3_
          have BK322 := n4_
          have GW321 := n5_
          have GE321 := n6_
          have NB301_321 := n7_
          have NB321_301 := n8_
          have NB302_321 := n9_
          have NB321_302 := n10_
          have NB322_321 := n11_
          have NB321_322 := n12_
          have GW322 := n13_
          have GE322 := n14_
          have NB301_322 := n15_
          have NB322_301 := n16_
          have NB302_322 := n17_
          have NB322_302 := n18_
          have HB := n19_
          clear n0_ n1_ n2_ n3_ n4_ n5_ n6_ n7_ n8_ n9_ n10_ n11_ n12_ n13_ n14_ n15_ n16_ n17_ n18_ n19_
          have hHeld : w67.cell? ⟨gb301,0,none⟩ = some (.slice A0_0 l0_0.length c0_0) ∧ w67.cell? ⟨gb301,1,none⟩ = some (.int .i64 a0_1) := hS_
          refine norm_ (a':=?_) ?_ ?_
          rotate_left
          ·simp only [putAll,Act.put,setIfInBounds_toArray,set_cons_zero,set_cons_succ]
           rfl
          refine one_ (i:=1) (N:=some 47) (bm 11 511) rfl rfl (one_of HT_.out (by kernel_rfl)) (by decide) (fun K hK => ?_)
          refine goes_ Try.func32 (by kernel_rfl) rfl #[.agg #[.slice A0_0 l0_0.length c0_0,.int .i64 a0_1]] (by rfl) rfl rfl mA ?_
          with_reducible refine (impl_Store_copied.calls _ _ l0_0 a0_1 t317 t320 _ ?side1 ?side2 A32.out).mono ?_
          (case side1 => repeat (first | exact (Kd.V_reads' HO_302000.out).2.2 | (with_reducible refine Kd.C_alloc ?_ _) | (with_reducible refine Kd.C_drewN ?_ _) | (with_reducible refine Kd.C_drew ?_)))
          (case side2 => exact (Kd.V_reads' HO_302000.out).2.1)
          rintro e w68 ⟨v318,rfl,ho0,hb⟩
          refine ⟨_,rfl,?_⟩
          have n0_ := Aside0.mk (Kd.V_elder' (by (with_reducible repeat (first | apply Kd.V_alloc | apply Kd.V_drewN | apply Kd.V_drew)); exact HO_302000.out) (Kd.R_base ho0) hb)
          have n1_ := Aside0.mk (Kd.R_lower (Kd.R_newB (Kd.R_newM (M:=fun k_ => (w.heap.size ≤ k_)) ho0 (below_size bA) (fun k_ h_ => h_)) (g:=gb322) (o:=.cells #[.string (⟨#[]⟩ : ByteArray),.int .i64 0,.string (⟨#[]⟩ : ByteArray)] 71 (0,0)) (kA BK322.out)) (below_size bA))
          have n2_ := Aside0.mk (blk_below (g:=gb301) (o:=.cells #[.slice A0_0 l0_0.length c0_0,.int .i64 a0_1] 28 (0,0)) (kA BK301.out) hb)
          have n3_ := Aside0.mk (blk_below (g:=gb302) (o:=.cells #[.slice none 0 0,.int .i64 0] 28 (0,0)) (kA BK302.out) hb)
          have n4_ := Aside0.mk (blk_below (g:=gb321) (o:=.cells #[.slice none 0 0,.int .i64 0] 28 (0,0)) (kA BK321.out) hb)
          have n5_ := Aside0.mk (blk_below (g:=gb322) (o:=.cells #[.string (⟨#[]⟩ : ByteArray),.int .i64 0,.string (⟨#[]⟩ : ByteArray)] 71 (0,0)) (kA BK322.out) hb)
          have n6_ := Aside0.mk (below_step bA hb)
          clear HO_302000
          clear BK301
          clear BK302
          clear BK321
          clear BK322
          clear HB
          have HO_302000 := n0_
          have HO319 := n1_
          have BK301 := n2_
          have BK302 := n3_
          have BK321 := n4_
          have BK322 := n5_
          have HB := n6_
          clear n0_ n1_ n2_ n3_ n4_ n5_ n6_
          (try clear hb)
          (try clear hb2)
          (try clear hk)
          (try clear hi)
          (try clear ho0)
          refine hK.out _ _ ⟨(blk_cell BK301.out 0).trans rfl,(blk_cell BK301.out 1).trans rfl⟩ (fun hHeld => ?_)
          clear hK K
          refine norm_ (a':=?_) ?_ ?_
          rotate_left
          ·show Act.put _ (some 47) _ = _
           simp only [Act.put,setIfInBounds_toArray,set_cons_zero,set_cons_succ,i64_w,i32_w]
           rfl
          exact norm_ (by first | (simp only [putAll,Act.put,setIfInBounds_toArray,set_cons_zero,set_cons_succ]; done) | (simp only [putAll,Act.put,setIfInBounds_toArray,set_cons_zero,set_cons_succ]; rfl)) (hJ1_7_8 (v318,gb321,gb322) _ ⟨hHeld,(by (with_reducible repeat (first | apply Kd.R_alloc | apply Kd.R_drewN | apply Kd.R_drew)); exact Kd.R_mono HO319.out (fun _ hk => ⟨hk.1.1,hk.2⟩)),(by (with_reducible repeat (first | apply Kd.V_alloc | apply Kd.V_drewN | apply Kd.V_drew)); exact Kd.V_mono HO_302000.out (fun _ hk => ⟨hk.1.1,⟨hk.2,⟨hk.1.2.1,⟨hk.1.2.2.1,⟨hk.1.2.2.2.1,hk.1.2.2.2.2⟩⟩⟩⟩⟩)),(kA BK301.out),(kA BK302.out),(kA BK321.out),(kA BK322.out),GW321.out,GE321.out,NB301_321.out,NB321_301.out,NB302_321.out,NB321_302.out,NB322_321.out,NB321_322.out,GW322.out,GE322.out,NB301_322.out,NB322_301.out,NB302_322.out,NB322_302.out,bA⟩)
        ·skip
         rintro ⟨v318,gb322⟩ w67 ⟨hS_,h0_,h1_,h2_,h3_,h4_,h5_,h6_,h7_,h8_,h9_,h10_,h11_⟩
         have n0_ : Aside0 (Kd.R k71 71 w67 w.heap.size (fun k_ => (w.heap.size ≤ k_) ∧ k_ ≠ gb322) v318 t317) := ⟨h0_⟩
         have n1_ : Aside0 (Kd.V k71 71 w67 w.heap.size (fun k_ => (P0_0_ k_ ∨ w.heap.size ≤ k_) ∧ some k_ ≠ (v318 : Value).ownBlock ∧ k_ ≠ gb301 ∧ k_ ≠ gb302 ∧ k_ ≠ gb322) (.slice A0_0 l0_0.length c0_0) l0_0) := ⟨h1_⟩
         have n2_ : Aside0 (w67.heap[gb301]? = some (.cells #[.slice A0_0 l0_0.length c0_0,.int .i64 a0_1] 28 (0,0))) := ⟨h2_⟩
         have n3_ : Aside0 (w67.heap[gb302]? = some (.cells #[.slice none 0 0,.int .i64 0] 28 (0,0))) := ⟨h3_⟩
         have n4_ : Aside0 (w67.heap[gb322]? = some (.cells #[.string (⟨#[]⟩ : ByteArray),.int .i64 0,.string (⟨#[]⟩ : ByteArray)] 71 (0,0))) := ⟨h4_⟩
         have n5_ : Aside0 (w.heap.size ≤ gb322) := ⟨h5_⟩
         have n6_ : Aside0 (w.heap.size ≤ gb322) := ⟨h6_⟩
         have n7_ : Aside0 (gb301 ≠ gb322) := ⟨h7_⟩
         have n8_ : Aside0 (gb322 ≠ gb301) := ⟨h8_⟩
         have n9_ : Aside0 (gb302 ≠ gb322) := ⟨h9_⟩
         have n10_ : Aside0 (gb322 ≠ gb302) := ⟨h10_⟩
         have n11_ : Aside0 (Below w.heap.size w w67) := ⟨h11_⟩
         clear HO_302000
         clear BK301
         clear BK302
         clear HB
         clear h0_ h1_ h2_ h3_ h4_ h5_ h6_ h7_ h8_ h9_ h10_ h11_
         have HO319 := n0_
         have HO_302000 := n1_
         have BK301 := n2_
         have BK302 := n3_
         have BK322 := n4_
         have GW322 := n5_
         have GE322 := n6_
         have NB301_322 := n7_
         have NB322_301 := n8_
         have NB302_322 := n9_
         have NB322_302 := n10_
         have HB := n11_
         clear n0_ n1_ n2_ n3_ n4_ n5_ n6_ n7_ n8_ n9_ n10_ n11_
         have hHeld : w67.cell? ⟨gb301,0,none⟩ = some (.slice A0_0 l0_0.length c0_0) ∧ w67.cell? ⟨gb301,1,none⟩ = some (.int .i64 a0_1) := hS_
         refine norm_ (a':=?_) ?_ ?_
         rotate_left
         ·simp only [putAll,Act.put,setIfInBounds_toArray,set_cons_zero,set_cons_succ]
          rfl
         refine one_ (i:=7) (N:=some 12) (bm 11 511) rfl rfl (one_of HT_.out (by kernel_rfl)) (by decide) (fun K hK => ?_)
         refine box_step ?hg (N:=12) ?hd (cs := #[.slice none 0 0,.int .i64 0]) (t:=28) ?hr ?_; (case hd => rfl); (case hg => rfl); (case hr => first | (go_simp; done) | (go_simp; rfl))
         intro gb321 hg w68 hbox hb
         have n0_ := Aside0.mk (Kd.V_below (Kd.V_elderB (by (with_reducible repeat (first | apply Kd.V_alloc | apply Kd.V_drewN | apply Kd.V_drew)); exact HO_302000.out) gb321 (Nat.le_of_eq hg.symm)) hb)
         have n1_ := Aside0.mk (Kd.R_below (rA HO319.out) hb)
         have n2_ := Aside0.mk (blk_below (g:=gb301) (o:=.cells #[.slice A0_0 l0_0.length c0_0,.int .i64 a0_1] 28 (0,0)) (kA BK301.out) hb)
         have n3_ := Aside0.mk (blk_below (g:=gb302) (o:=.cells #[.slice none 0 0,.int .i64 0] 28 (0,0)) (kA BK302.out) hb)
         have n4_ := Aside0.mk (blk_below (g:=gb322) (o:=.cells #[.string (⟨#[]⟩ : ByteArray),.int .i64 0,.string (⟨#[]⟩ : ByteArray)] 71 (0,0)) (kA BK322.out) hb)
         have n5_ := Aside0.mk (below_step bA hb)
         have n6_ := Aside0.mk (hbox)
         have n7_ := Aside0.mk ((by rw [hg]; exact (below_size bA) : w.heap.size ≤ gb321))
         have n8_ := Aside0.mk ((by rw [hg]; exact (below_size bA) : w.heap.size ≤ gb321))
         have n9_ := Aside0.mk ((by rw [hg]; exact Nat.ne_of_lt (blk_lt (g:=gb301) (o:=.cells #[.slice A0_0 l0_0.length c0_0,.int .i64 a0_1] 28 (0,0)) (kA BK301.out)) : gb301 ≠ gb321))
         have n10_ := Aside0.mk ((by rw [hg]; exact Nat.ne_of_gt (blk_lt (g:=gb301) (o:=.cells #[.slice A0_0 l0_0.length c0_0,.int .i64 a0_1] 28 (0,0)) (kA BK301.out)) : gb321 ≠ gb301))
         have n11_ := Aside0.mk ((by rw [hg]; exact Nat.ne_of_lt (blk_lt (g:=gb302) (o:=.cells #[.slice none 0 0,.int .i64 0] 28 (0,0)) (kA BK302.out)) : gb302 ≠ gb321))
         have n12_ := Aside0.mk ((by rw [hg]; exact Nat.ne_of_gt (blk_lt (g:=gb302) (o:=.cells #[.slice none 0 0,.int .i64 0] 28 (0,0)) (kA BK302.out)) : gb321 ≠ gb302))
         have n13_ := Aside0.mk ((by rw [hg]; exact Nat.ne_of_lt (blk_lt (g:=gb322) (o:=.cells #[.string (⟨#[]⟩ : ByteArray),.int .i64 0,.string (⟨#[]⟩ : ByteArray)] 71 (0,0)) (kA BK322.out)) : gb322 ≠ gb321))
         have n14_ := Aside0.mk ((by rw [hg]; exact Nat.ne_of_gt (blk_lt (g:=gb322) (o:=.cells #[.string (⟨#[]⟩ : ByteArray),.int .i64 0,.string (⟨#[]⟩ : ByteArray)] 71 (0,0)) (kA BK322.out)) : gb321 ≠ gb322))
         clear HO_302000
         clear HO319
         clear BK301
         clear BK302
         clear BK322
         clear HB
         have HO_302000 := n0_
         have HO319 := n1_
         have BK301 := n2_
         have BK302 := n3_
         have BK322 := n4_
         have HB := n5_
         have BK321 := n6_
         have GW321 := n7_
         have GE321 := n8_
         have NB301_321 := n9_
         have NB321_301 := n10_
         have NB302_321 := n11_
         have NB321_302 := n12_
         have NB322_321 := n13_
         have NB321_322 := n14_
         clear n0_ n1_ n2_ n3_ n4_ n5_ n6_ n7_ n8_ n9_ n10_ n11_ n12_ n13_ n14_
         clear hb hbox hg
         refine hK.out _ _ ⟨(blk_cell BK301.out 0).trans rfl,(blk_cell BK301.out 1).trans rfl⟩ (fun hHeld => ?_)
         clear hK K
         refine norm_ (a':=?_) ?_ ?_
         rotate_left
         ·show Act.put _ (some 12) _ = _
          simp only [Act.put,setIfInBounds_toArray,set_cons_zero,set_cons_succ,i64_w,i32_w]
          rfl
         exact norm_ (by first | (simp only [putAll,Act.put,setIfInBounds_toArray,set_cons_zero,set_cons_succ]; done) | (simp only [putAll,Act.put,setIfInBounds_toArray,set_cons_zero,set_cons_succ]; rfl)) (hJ1_7_8 (v318,gb321,gb322) _ ⟨hHeld,(rA HO319.out),(by (with_reducible repeat (first | apply Kd.V_alloc | apply Kd.V_drewN | apply Kd.V_drew)); exact Kd.V_mono HO_302000.out (fun _ hk => ⟨hk.1.1,⟨hk.1.2.1,⟨hk.1.2.2.1,⟨hk.1.2.2.2.1,⟨hk.2,hk.1.2.2.2.2⟩⟩⟩⟩⟩)),(kA BK301.out),(kA BK302.out),(kA BK321.out),(kA BK322.out),GW321.out,GE321.out,NB301_321.out,NB321_301.out,NB302_321.out,NB321_302.out,NB322_321.out,NB321_322.out,GW322.out,GE322.out,NB301_322.out,NB322_301.out,NB302_322.out,NB322_302.out,bA⟩)
       ·skip
        rintro ⟨v318,gb321⟩ w67 ⟨hS_,h0_,h1_,h2_,h3_,h4_,h5_,h6_,h7_,h8_,h9_,h10_,h11_⟩
        have n0_ : Aside0 (Kd.R k71 71 w67 w.heap.size (fun k_ => (w.heap.size ≤ k_)) v318 t317) := ⟨h0_⟩
        have n1_ : Aside0 (Kd.V k71 71 w67 w.heap.size (fun k_ => (P0_0_ k_ ∨ w.heap.size ≤ k_) ∧ some k_ ≠ (v318 : Value).ownBlock ∧ k_ ≠ gb301 ∧ k_ ≠ gb302 ∧ k_ ≠ gb321) (.slice A0_0 l0_0.length c0_0) l0_0) := ⟨h1_⟩
        have n2_ : Aside0 (w67.heap[gb301]? = some (.cells #[.slice A0_0 l0_0.length c0_0,.int .i64 a0_1] 28 (0,0))) := ⟨h2_⟩
        have n3_ : Aside0 (w67.heap[gb302]? = some (.cells #[.slice none 0 0,.int .i64 0] 28 (0,0))) := ⟨h3_⟩
        have n4_ : Aside0 (w67.heap[gb321]? = some (.cells #[.slice none 0 0,.int .i64 0] 28 (0,0))) := ⟨h4_⟩
        have n5_ : Aside0 (w.heap.size ≤ gb321) := ⟨h5_⟩
        have n6_ : Aside0 (w.heap.size ≤ gb321) := ⟨h6_⟩
        have n7_ : Aside0 (gb301 ≠ gb321) := ⟨h7_⟩
        have n8_ : Aside0 (gb321 ≠ gb301) := ⟨h8_⟩
        have n9_ : Aside0 (gb302 ≠ gb321) := ⟨h9_⟩
        have n10_ : Aside0 (gb321 ≠ gb302) := ⟨h10_⟩
        have n11_ : Aside0 (Below w.heap.size w w67) := ⟨h11_⟩
        clear HO_302000
        clear BK301
        clear BK302
        clear HB
        clear h0_ h1_ h2_ h3_ h4_ h5_ h6_ h7_ h8_ h9_ h10_ h11_
        have HO319 := n0_
        have HO_302000 := n1_
        have BK301 := n2_
        have BK302 := n3_
        have BK321 := n4_
        have GW321 := n5_
        have GE321 := n6_
        have NB301_321 := n7_
        have NB321_301 := n8_
        have NB302_321 := n9_
        have NB321_302 := n10_
        have HB := n11_
        clear n0_ n1_ n2_ n3_ n4_ n5_ n6_ n7_ n8_ n9_ n10_ n11_
        have hHeld : w67.cell? ⟨gb301,0,none⟩ = some (.slice A0_0 l0_0.length c0_0) ∧ w67.cell? ⟨gb301,1,none⟩ = some (.int .i64 a0_1) := hS_
        refine norm_ (a':=?_) ?_ ?_
        rotate_left
        ·simp only [putAll,Act.put,setIfInBounds_toArray,set_cons_zero,set_cons_succ]
         rfl
        refine one_ (i:=8) (N:=some 13) (bm 11 511) rfl rfl (one_of HT_.out (by kernel_rfl)) (by decide) (fun K hK => ?_)
        refine box_step ?hg (N:=13) ?hd (cs := #[.string (⟨#[]⟩ : ByteArray),.int .i64 0,.string (⟨#[]⟩ : ByteArray)]) (t:=71) ?hr ?_; (case hd => rfl); (case hg => rfl); (case hr => first | (go_simp; done) | (go_simp; rfl))
        intro gb322 hg w68 hbox hb
        have n0_ := Aside0.mk (Kd.V_below (Kd.V_elderB (by (with_reducible repeat (first | apply Kd.V_alloc | apply Kd.V_drewN | apply Kd.V_drew)); exact HO_302000.out) gb322 (Nat.le_of_eq hg.symm)) hb)
        have n1_ := Aside0.mk (Kd.R_below (Kd.R_elderB (rA HO319.out) gb322 (Nat.le_of_eq hg.symm)) hb)
        have n2_ := Aside0.mk (blk_below (g:=gb301) (o:=.cells #[.slice A0_0 l0_0.length c0_0,.int .i64 a0_1] 28 (0,0)) (kA BK301.out) hb)
        have n3_ := Aside0.mk (blk_below (g:=gb302) (o:=.cells #[.slice none 0 0,.int .i64 0] 28 (0,0)) (kA BK302.out) hb)
        have n4_ := Aside0.mk (blk_below (g:=gb321) (o:=.cells #[.slice none 0 0,.int .i64 0] 28 (0,0)) (kA BK321.out) hb)
        have n5_ := Aside0.mk (below_step bA hb)
        have n6_ := Aside0.mk (hbox)
        have n7_ := Aside0.mk ((by rw [hg]; exact (below_size bA) : w.heap.size ≤ gb322))
        have n8_ := Aside0.mk ((by rw [hg]; exact (below_size bA) : w.heap.size ≤ gb322))
        have n9_ := Aside0.mk ((by rw [hg]; exact Nat.ne_of_lt (blk_lt (g:=gb301) (o:=.cells #[.slice A0_0 l0_0.length c0_0,.int .i64 a0_1] 28 (0,0)) (kA BK301.out)) : gb301 ≠ gb322))
        have n10_ := Aside0.mk ((by rw [hg]; exact Nat.ne_of_gt (blk_lt (g:=gb301) (o:=.cells #[.slice A0_0 l0_0.length c0_0,.int .i64 a0_1] 28 (0,0)) (kA BK301.out)) : gb322 ≠ gb301))
        have n11_ := Aside0.mk ((by rw [hg]; exact Nat.ne_of_lt (blk_lt (g:=gb302) (o:=.cells #[.slice none 0 0,.int .i64 0] 28 (0,0)) (kA BK302.out)) : gb302 ≠ gb322))
        have n12_ := Aside0.mk ((by rw [hg]; exact Nat.ne_of_gt (blk_lt (g:=gb302) (o:=.cells #[.slice none 0 0,.int .i64 0] 28 (0,0)) (kA BK302.out)) : gb322 ≠ gb302))
        have n13_ := Aside0.mk ((by rw [hg]; exact Nat.ne_of_lt (blk_lt (g:=gb321) (o:=.cells #[.slice none 0 0,.int .i64 0] 28 (0,0)) (kA BK321.out)) : gb321 ≠ gb322))
        have n14_ := Aside0.mk ((by rw [hg]; exact Nat.ne_of_gt (blk_lt (g:=gb321) (o:=.cells #[.slice none 0 0,.int .i64 0] 28 (0,0)) (kA BK321.out)) : gb322 ≠ gb321))
        clear HO_302000
        clear HO319
        clear BK301
        clear BK302
        clear BK321
        clear HB
        have HO_302000 := n0_
        have HO319 := n1_
        have BK301 := n2_
        have BK302 := n3_
        have BK321 := n4_
        have HB := n5_
        have BK322 := n6_
        have GW322 := n7_
        have GE322 := n8_
        have NB301_322 := n9_
        have NB322_301 := n10_
        have NB302_322 := n11_
        have NB322_302 := n12_
        have NB321_322 := n13_
        have NB322_321 := n14_
        clear n0_ n1_ n2_ n3_ n4_ n5_ n6_ n7_ n8_ n9_ n10_ n11_ n12_ n13_ n14_
        clear hb hbox hg
        refine hK.out _ _ ⟨(blk_cell BK301.out 0).trans rfl,(blk_cell BK301.out 1).trans rfl⟩ (fun hHeld => ?_)
        clear hK K
        refine norm_ (a':=?_) ?_ ?_
        rotate_left
        ·show Act.put _ (some 13) _ = _
         simp only [Act.put,setIfInBounds_toArray,set_cons_zero,set_cons_succ,i64_w,i32_w]
         rfl
        exact norm_ (by first | (simp only [putAll,Act.put,setIfInBounds_toArray,set_cons_zero,set_cons_succ]; done) | (simp only [putAll,Act.put,setIfInBounds_toArray,set_cons_zero,set_cons_succ]; rfl)) (hJ1_7_8 (v318,gb321,gb322) _ ⟨hHeld,(rA HO319.out),(by (with_reducible repeat (first | apply Kd.V_alloc | apply Kd.V_drewN | apply Kd.V_drew)); exact Kd.V_mono HO_302000.out (fun _ hk => ⟨hk.1.1,⟨hk.1.2.1,⟨hk.1.2.2.1,⟨hk.1.2.2.2.1,⟨hk.1.2.2.2.2,hk.2⟩⟩⟩⟩⟩)),(kA BK301.out),(kA BK302.out),(kA BK321.out),(kA BK322.out),GW321.out,GE321.out,NB301_321.out,NB321_301.out,NB302_321.out,NB321_302.out,NB322_321.out,NB321_322.out,GW322.out,GE322.out,NB301_322.out,NB322_301.out,NB302_322.out,NB322_302.out,bA⟩)
      rintro ⟨v318,gb321,gb322⟩ w68 ⟨hS_,h0_,h1_,h2_,h3_,h4_,h5_,h6_,h7_,h8_,h9_,h10_,h11_,h12_,h13_,h14_,h15_,h16_,h17_,h18_,h19_,h20_⟩
      have n0_ : Aside0 (Kd.R k71 71 w68 w.heap.size (fun k_ => (w.heap.size ≤ k_) ∧ k_ ≠ gb322) v318 t317) := ⟨h0_⟩
      have n1_ : Aside0 (Kd.V k71 71 w68 w.heap.size (fun k_ => (P0_0_ k_ ∨ w.heap.size ≤ k_) ∧ some k_ ≠ (v318 : Value).ownBlock ∧ k_ ≠ gb301 ∧ k_ ≠ gb302 ∧ k_ ≠ gb321 ∧ k_ ≠ gb322) (.slice A0_0 l0_0.length c0_0) l0_0) := ⟨h1_⟩
      have n2_ : Aside0 (w68.heap[gb301]? = some (.cells #[.slice A0_0 l0_0.length c0_0,.int .i64 a0_1] 28 (0,0))) := ⟨h2_⟩
      have n3_ : Aside0 (w68.heap[gb302]? = some (.cells #[.slice none 0 0,.int .i64 0] 28 (0,0))) := ⟨h3_⟩
      have n4_ : Aside0 (w68.heap[gb321]? = some (.cells #[.slice none 0 0,.int .i64 0] 28 (0,0))) := ⟨h4_⟩
      have n5_ : Aside0 (w68.heap[gb322]? = some (.cells #[.string (⟨#[]⟩ : ByteArray),.int .i64 0,.string (⟨#[]⟩ : ByteArray)] 71 (0,0))) := ⟨h5_⟩
      have n6_ : Aside0 (w.heap.size ≤ gb321) := ⟨h6_⟩
      have n7_ : Aside0 (w.heap.size ≤ gb321) := ⟨h7_⟩
      have n8_ : Aside0 (gb301 ≠ gb321) := ⟨h8_⟩
      have n9_ : Aside0 (gb321 ≠ gb301) := ⟨h9_⟩
      have n10_ : Aside0 (gb302 ≠ gb321) := ⟨h10_⟩
      have n11_ : Aside0 (gb321 ≠ gb302) := ⟨h11_⟩
      have n12_ : Aside0 (gb322 ≠ gb321) := ⟨h12_⟩
      have n13_ : Aside0 (gb321 ≠ gb322) := ⟨h13_⟩
      have n14_ : Aside0 (w.heap.size ≤ gb322) := ⟨h14_⟩
      have n15_ : Aside0 (w.heap.size ≤ gb322) := ⟨h15_⟩
      have n16_ : Aside0 (gb301 ≠ gb322) := ⟨h16_⟩
      have n17_ : Aside0 (gb322 ≠ gb301) := ⟨h17_⟩
      have n18_ : Aside0 (gb302 ≠ gb322) := ⟨h18_⟩
      have n19_ : Aside0 (gb322 ≠ gb302) := ⟨h19_⟩
      have n20_ : Aside0 (Below w.heap.size w w68) := ⟨h20_⟩
      clear HO_302000
      clear BK301
      clear BK302
      clear HB
      clear h0_ h1_ h2_ h3_ h4_ h5_ h6_ h7_ h8_ h9_ h10_ h11_ h12_ h13_ h14_ h15_ h16_ h17_ h18_ h19_ h20_
      have HO319 := n0_
      have HO_302000 := n1_
      have BK301 := n2_
      have BK302 := n3_
      have BK321 := n4_
      have BK322 := n5_
      have GW321 := n6_
      have GE321 := n7_
      have NB301_321 := n8_
      have NB321_301 := n9_
      have NB302_321 := n10_
      have NB321_302 := n11_
      have NB322_321 := n12_
      have NB321_322 := n13_
      have GW322 := n14_
      have GE322 := n15_
      have NB301_322 := n16_
      have NB322_301 := n17_
      have NB302_322 := n18_
      have NB322_302 := n19_
      have HB := n20_
      clear n0_ n1_ n2_ n3_ n4_ n5_ n6_ n7_ n8_ n9_ n10_ n11_ n12_ n13_ n14_ n15_ n16_ n17_ n18_ n19_ n20_
      have hHeld : w68.cell? ⟨gb301,0,none⟩ = some (.slice A0_0 l0_0.length c0_0) ∧ w68.cell? ⟨gb301,1,none⟩ = some (.int .i64 a0_1) := hS_
      obtain ⟨Ao69,co69,eo69⟩ := Kd.R_slice HO319.out
      (first | subst eo69 | (injection eo69 with f1_ f2_ f3_; have f4_ := f1_.symm; have f5_ := f3_.symm; clear f1_ f2_ f3_; subst f4_; subst f5_))
      refine norm_ (a':=?_) ?_ ?_
      rotate_left
      ·simp only [putAll,Act.put,setIfInBounds_toArray,set_cons_zero,set_cons_succ]
       rfl
      refine one_ (i:=9) (N:=none) (bm 11 1023) rfl rfl (one_of HT_.out (by kernel_rfl)) (by decide) (fun K hK => ?_)
      have hs70 : w68.cell? ⟨gb321,0,none⟩ = some (.slice none 0 0) := (blk_cell BK321.out 0).trans rfl
      have hfs70 := blk_frozen BK321.out 0
      have hns70_0 := NB301_321.out
      have hns70_1 := NB302_321.out
      have hns70_3 := NB322_321.out
      have hms70_0 := NB321_301.out
      have hms70_1 := NB321_302.out
      have hms70_3 := NB321_322.out
      have hs71 : w68.cell? ⟨gb321,1,none⟩ = some (.int .i64 0) := (blk_cell BK321.out 1).trans rfl
      have hfs71 := blk_frozen BK321.out 1
      have hns71_0 := NB301_321.out
      have hns71_1 := NB302_321.out
      have hns71_3 := NB322_321.out
      have hms71_0 := NB321_301.out
      have hms71_1 := NB321_302.out
      have hms71_3 := NB321_322.out
      refine skip_ (w1 := ?_) (by rfl) rfl ?_ ?_
      rotate_left
      ·go_simp
       rfl
      refine hK.out _ _ ⟨((cell_far (p:=⟨gb321,_,none⟩) NB301_321.out _).trans (((cell_far (p:=⟨gb321,_,none⟩) NB301_321.out _).trans (hHeld.1)))),((cell_far (p:=⟨gb321,_,none⟩) NB301_321.out _).trans (((cell_far (p:=⟨gb321,_,none⟩) NB301_321.out _).trans (hHeld.2))))⟩ (fun hHeld => ?_)
      clear hK K
      refine one_ (i:=10) (N:=none) (bm 11 2047) rfl rfl (one_of HT_.out (by kernel_rfl)) (by decide) (fun K hK => ?_)
      have hs72 : w68.cell? ⟨gb322,0,none⟩ = some (.string (⟨#[]⟩ : ByteArray)) := (blk_cell BK322.out 0).trans rfl
      have hfs72 := blk_frozen BK322.out 0
      have hns72_0 := NB301_322.out
      have hns72_1 := NB302_322.out
      have hns72_2 := NB321_322.out
      have hms72_0 := NB322_301.out
      have hms72_1 := NB322_302.out
      have hms72_2 := NB322_321.out
      have hs73 : w68.cell? ⟨gb322,1,none⟩ = some (.int .i64 0) := (blk_cell BK322.out 1).trans rfl
      have hfs73 := blk_frozen BK322.out 1
      have hns73_0 := NB301_322.out
      have hns73_1 := NB302_322.out
      have hns73_2 := NB321_322.out
      have hms73_0 := NB322_301.out
      have hms73_1 := NB322_302.out
      have hms73_2 := NB322_321.out
      have hs74 : w68.cell? ⟨gb322,2,none⟩ = some (.string (⟨#[]⟩ : ByteArray)) := (blk_cell BK322.out 2).trans rfl
      have hfs74 := blk_frozen BK322.out 2
      have hns74_0 := NB301_322.out
      have hns74_1 := NB302_322.out
      have hns74_2 := NB321_322.out
      have hms74_0 := NB322_301.out
      have hms74_1 := NB322_302.out
      have hms74_2 := NB322_321.out
      refine skip_ (w1 := ?_) (by rfl) rfl ?_ ?_
      rotate_left
      ·go_simp
       rfl
      refine hK.out _ _ ⟨((cell_far (p:=⟨gb322,_,none⟩) NB301_322.out _).trans (((cell_far (p:=⟨gb322,_,none⟩) NB301_322.out _).trans (((cell_far (p:=⟨gb322,_,none⟩) NB301_322.out _).trans (hHeld.1)))))),((cell_far (p:=⟨gb322,_,none⟩) NB301_322.out _).trans (((cell_far (p:=⟨gb322,_,none⟩) NB301_322.out _).trans (((cell_far (p:=⟨gb322,_,none⟩) NB301_322.out _).trans (hHeld.2))))))⟩ (fun hHeld => ?_)
      clear hK K
      refine done_ (done_of HT_.out (by kernel_rfl)) ?_
      have hnb75 := NB321_301.out
      have hnc75 := NB301_321.out
      have hnb76 := NB321_302.out
      have hnc76 := NB302_321.out
      have hnb77 := NB321_322.out
      have hnc77 := NB322_321.out
      have hcz78_0 : w68.cell? ⟨gb321,0,none⟩ = some (.slice none 0 0) := (blk_cell BK321.out 0).trans rfl
      have hcz78_1 : w68.cell? ⟨gb321,1,none⟩ = some (.int .i64 0) := (blk_cell BK321.out 1).trans rfl
      have hfz78_0 := blk_frozen BK321.out 0
      have hfz78_1 := blk_frozen BK321.out 1
      have hnb79 := NB322_301.out
      have hnc79 := NB301_322.out
      have hnb80 := NB322_302.out
      have hnc80 := NB302_322.out
      have hcz81_0 : w68.cell? ⟨gb322,0,none⟩ = some (.string (⟨#[]⟩ : ByteArray)) := (blk_cell BK322.out 0).trans rfl
      have hcz81_1 : w68.cell? ⟨gb322,1,none⟩ = some (.int .i64 0) := (blk_cell BK322.out 1).trans rfl
      have hcz81_2 : w68.cell? ⟨gb322,2,none⟩ = some (.string (⟨#[]⟩ : ByteArray)) := (blk_cell BK322.out 2).trans rfl
      have hfz81_0 := blk_frozen BK322.out 0
      have hfz81_1 := blk_frozen BK322.out 1
      have hfz81_2 := blk_frozen BK322.out 2
      try go_wp2_with (first | ((with_reducible refine gate_callee (f:=69) rfl ?_); (try (refine gate_guard (by rfl) ?_; dsimp only)); refine ins_step (w0 := w) w.heap.size rfl (.tmp 60) (.tmp 61) (.tmp 63) rfl _ (.slice Ao69 t317.length co69) t317 (⟨a1,a0_1,a2⟩ : S71) [.string a1,.int .i64 a0_1,.string a2] (fun k_ => (w.heap.size ≤ k_) ∧ k_ ≠ gb322) rfl rfl ?aI (by first | (go_simp; done) | (go_simp; rfl)) ?aP ?aF ?aO ?aB ?aS ?aL ?_; (case aI => have := LMc63.out; omega); (case aP => exact k71_mkM _ _ _ (⟨a1,a0_1,a2⟩ : S71)); (case aB => exact bA); (case aF => exact (fun k_ hk => ⟨(Nat.le_trans (below_size bA) hk),Kd.freshB (g:=gb322) (o:=.cells #[.string a1,.int .i64 a0_1,.string a2] 71 (0,0)) (by (with_reducible repeat (first | refine blk_drewN ?_ _ | refine blk_drew ?_ | refine blk_alloc ?_ _)); refine blk_put (cs := #[.string a1,.int .i64 a0_1,.string (⟨#[]⟩ : ByteArray)]) ?_ 2 _ rfl; (with_reducible repeat (first | refine blk_drewN ?_ _ | refine blk_drew ?_ | refine blk_alloc ?_ _)); refine blk_put (cs := #[.string a1,.int .i64 0,.string (⟨#[]⟩ : ByteArray)]) ?_ 1 _ rfl; (with_reducible repeat (first | refine blk_drewN ?_ _ | refine blk_drew ?_ | refine blk_alloc ?_ _)); refine blk_put (cs := #[.string (⟨#[]⟩ : ByteArray),.int .i64 0,.string (⟨#[]⟩ : ByteArray)]) ?_ 0 _ rfl; (with_reducible repeat (first | refine blk_drewN ?_ _ | refine blk_drew ?_ | refine blk_alloc ?_ _)); refine blk_far ?_ NB322_321.out _; (with_reducible repeat (first | refine blk_drewN ?_ _ | refine blk_drew ?_ | refine blk_alloc ?_ _)); refine blk_far ?_ NB322_321.out _; (with_reducible repeat (first | refine blk_drewN ?_ _ | refine blk_drew ?_ | refine blk_alloc ?_ _)); exact BK322.out) k_ hk⟩)); (case aO => exact (by (with_reducible repeat (first | apply Kd.R_alloc | apply Kd.R_drewN | apply Kd.R_drew)); exact Kd.R_mono (Kd.R_far (p:=⟨gb322,2,none⟩) (Kd.R_far (p:=⟨gb322,1,none⟩) (Kd.R_far (p:=⟨gb322,0,none⟩) (Kd.R_far (p:=⟨gb321,1,none⟩) (Kd.R_far (p:=⟨gb321,0,none⟩) (Kd.R_mono (Kd.R_types HO319.out BK321.out (by decide)) (fun k_ hk => (⟨hk,hk.1.2⟩ : _ ∧ k_ ≠ gb322))) (fun _ hk => hk.1.2) (.slice Ao69 t317.length co69)) (fun _ hk => hk.1.2) (.int .i64 t320)) (fun _ hk => hk.2) (.string a1)) (fun _ hk => hk.2) (.int .i64 a0_1)) (fun _ hk => hk.2) (.string a2)) (fun _ hk => ⟨hk.1.1.1,hk.1.1.2⟩))); (case aS => exact (below_size bA)); (case aL => have := LMc63.out; omega); intro v325 w82 ho hb hg hat; rw [← Ny324.out] at ho; have n0_ := Aside0.mk (Kd.V_afterv (ok := (fun k_ => (P0_0_ k_ ∨ w.heap.size ≤ k_) ∧ k_ ≠ gb301 ∧ k_ ≠ gb302 ∧ k_ ≠ gb321 ∧ k_ ≠ gb322)) (by (with_reducible repeat (first | apply Kd.V_alloc | apply Kd.V_drewN | apply Kd.V_drew)); exact Kd.V_mono (Kd.V_far (p:=⟨gb322,2,none⟩) (Kd.V_far (p:=⟨gb322,1,none⟩) (Kd.V_far (p:=⟨gb322,0,none⟩) (Kd.V_far (p:=⟨gb321,1,none⟩) (Kd.V_far (p:=⟨gb321,0,none⟩) (Kd.V_mono (Kd.V_mono HO_302000.out (fun k_ hk => (⟨hk,hk.2.2.2.2.1⟩ : _ ∧ k_ ≠ gb321))) (fun k_ hk => (⟨hk,hk.1.2.2.2.2.2⟩ : _ ∧ k_ ≠ gb322))) (fun _ hk => hk.1.2) (.slice Ao69 t317.length co69)) (fun _ hk => hk.1.2) (.int .i64 t320)) (fun _ hk => hk.2) (.string a1)) (fun _ hk => hk.2) (.int .i64 a0_1)) (fun _ hk => hk.2) (.string a2)) (fun _ hk => ⟨⟨hk.1.1.1,⟨hk.1.1.2.2.1,⟨hk.1.1.2.2.2.1,⟨hk.1.1.2.2.2.2.1,hk.1.1.2.2.2.2.2⟩⟩⟩⟩,hk.1.1.2.1⟩)) hg hat); have n1_ := Aside0.mk (blk_grown (g:=gb301) (o:=.cells #[.slice A0_0 l0_0.length c0_0,.int .i64 a0_1] 28 (0,0)) (kF BK301.out) hg (Kd.R_ne HO319.out BK301.out (by decide))); have n2_ := Aside0.mk (blk_grown (g:=gb302) (o:=.cells #[.slice none 0 0,.int .i64 0] 28 (0,0)) (kF BK302.out) hg (Kd.R_ne HO319.out BK302.out (by decide))); have n3_ := Aside0.mk (blk_grown (g:=gb321) (o:=.cells #[.slice Ao69 t317.length co69,.int .i64 t320] 28 (0,0)) (by (with_reducible repeat (first | refine blk_drewN ?_ _ | refine blk_drew ?_ | refine blk_alloc ?_ _)); refine blk_far ?_ NB321_322.out _; (with_reducible repeat (first | refine blk_drewN ?_ _ | refine blk_drew ?_ | refine blk_alloc ?_ _)); refine blk_far ?_ NB321_322.out _; (with_reducible repeat (first | refine blk_drewN ?_ _ | refine blk_drew ?_ | refine blk_alloc ?_ _)); refine blk_far ?_ NB321_322.out _; (with_reducible repeat (first | refine blk_drewN ?_ _ | refine blk_drew ?_ | refine blk_alloc ?_ _)); refine blk_put (cs := #[.slice Ao69 t317.length co69,.int .i64 0]) ?_ 1 _ rfl; (with_reducible repeat (first | refine blk_drewN ?_ _ | refine blk_drew ?_ | refine blk_alloc ?_ _)); refine blk_put (cs := #[.slice none 0 0,.int .i64 0]) ?_ 0 _ rfl; (with_reducible repeat (first | refine blk_drewN ?_ _ | refine blk_drew ?_ | refine blk_alloc ?_ _)); exact BK321.out) hg (Kd.R_ne HO319.out BK321.out (by decide))); have n4_ := Aside0.mk (blk_grown (g:=gb322) (o:=.cells #[.string a1,.int .i64 a0_1,.string a2] 71 (0,0)) (by (with_reducible repeat (first | refine blk_drewN ?_ _ | refine blk_drew ?_ | refine blk_alloc ?_ _)); refine blk_put (cs := #[.string a1,.int .i64 a0_1,.string (⟨#[]⟩ : ByteArray)]) ?_ 2 _ rfl; (with_reducible repeat (first | refine blk_drewN ?_ _ | refine blk_drew ?_ | refine blk_alloc ?_ _)); refine blk_put (cs := #[.string a1,.int .i64 0,.string (⟨#[]⟩ : ByteArray)]) ?_ 1 _ rfl; (with_reducible repeat (first | refine blk_drewN ?_ _ | refine blk_drew ?_ | refine blk_alloc ?_ _)); refine blk_put (cs := #[.string (⟨#[]⟩ : ByteArray),.int .i64 0,.string (⟨#[]⟩ : ByteArray)]) ?_ 0 _ rfl; (with_reducible repeat (first | refine blk_drewN ?_ _ | refine blk_drew ?_ | refine blk_alloc ?_ _)); refine blk_far ?_ NB322_321.out _; (with_reducible repeat (first | refine blk_drewN ?_ _ | refine blk_drew ?_ | refine blk_alloc ?_ _)); refine blk_far ?_ NB322_321.out _; (with_reducible repeat (first | refine blk_drewN ?_ _ | refine blk_drew ?_ | refine blk_alloc ?_ _)); exact BK322.out) hg (Kd.R_away HO319.out (fun _ hk => hk.2))); have n5_ := Aside0.mk (hb); have n6_ := Aside0.mk (ho); clear HO_302000; clear BK301; clear BK302; clear BK321; clear BK322; clear HB; clear HO319; have HO_302000 := n0_; have BK301 := n1_; have BK302 := n2_; have BK321 := n3_; have BK322 := n4_; have HB := n5_; have HO326 := n6_; clear n0_ n1_ n2_ n3_ n4_ n5_ n6_; clear ho hb hg hat; obtain ⟨Ao83,co83,eo83⟩ := Kd.R_slice HO326.out; subst eo83; have hcz84_0 : w82.cell? ⟨gb321,0,none⟩ = some (.slice Ao69 t317.length co69) := (blk_cell BK321.out 0).trans rfl; have hcz84_1 : w82.cell? ⟨gb321,1,none⟩ = some (.int .i64 t320) := (blk_cell BK321.out 1).trans rfl; have hfz84_0 := blk_frozen BK321.out 0; have hfz84_1 := blk_frozen BK321.out 1))
      have n0_ : Aside0 (Kd.V k71 71 ((w82.setCell ⟨gb321,0,none⟩ (.slice Ao83 y324.length co83)).setCell ⟨gb321,1,none⟩ (.int .i64 (wrap64 (t320 + 1)))) w.heap.size (fun k_ => (P0_0_ k_ ∨ w.heap.size ≤ k_) ∧ some k_ ≠ (.slice Ao83 y324.length co83 : Value).ownBlock ∧ k_ ≠ gb301 ∧ k_ ≠ gb302 ∧ k_ ≠ gb321 ∧ k_ ≠ gb322) (.slice A0_0 l0_0.length c0_0) l0_0) := ⟨by (with_reducible repeat (first | apply Kd.V_alloc | apply Kd.V_drewN | apply Kd.V_drew)); exact Kd.V_mono (Kd.V_far (p:=⟨gb321,1,none⟩) (Kd.V_far (p:=⟨gb321,0,none⟩) (Kd.V_mono HO_302000.out (fun k_ hk => (⟨hk,hk.1.2.2.2.1⟩ : _ ∧ k_ ≠ gb321))) (fun _ hk => hk.2) (.slice Ao83 y324.length co83)) (fun _ hk => hk.2) (.int .i64 (wrap64 (t320 + 1)))) (fun _ hk => ⟨hk.1.1.1,⟨hk.1.2,⟨hk.1.1.2.1,⟨hk.1.1.2.2.1,⟨hk.1.1.2.2.2.1,hk.1.1.2.2.2.2⟩⟩⟩⟩⟩)⟩
      have n1_ : Aside0 (Kd.R k71 71 ((w82.setCell ⟨gb321,0,none⟩ (.slice Ao83 y324.length co83)).setCell ⟨gb321,1,none⟩ (.int .i64 (wrap64 (t320 + 1)))) w.heap.size (fun k_ => (w.heap.size ≤ k_) ∧ k_ ≠ gb322) (.slice Ao83 y324.length co83) y324) := ⟨by (with_reducible repeat (first | apply Kd.R_alloc | apply Kd.R_drewN | apply Kd.R_drew)); exact Kd.R_mono (Kd.R_far (p:=⟨gb321,1,none⟩) (Kd.R_far (p:=⟨gb321,0,none⟩) (Kd.R_types HO326.out BK321.out (by decide)) (fun _ hk => hk.2) (.slice Ao83 y324.length co83)) (fun _ hk => hk.2) (.int .i64 (wrap64 (t320 + 1)))) (fun _ hk => ⟨hk.1.1,hk.1.2⟩)⟩
      have n2_ : Aside0 (((w82.setCell ⟨gb321,0,none⟩ (.slice Ao83 y324.length co83)).setCell ⟨gb321,1,none⟩ (.int .i64 (wrap64 (t320 + 1)))).heap[gb301]? = some (.cells #[.slice A0_0 l0_0.length c0_0,.int .i64 a0_1] 28 (0,0))) := ⟨kF BK301.out⟩
      have n3_ : Aside0 (((w82.setCell ⟨gb321,0,none⟩ (.slice Ao83 y324.length co83)).setCell ⟨gb321,1,none⟩ (.int .i64 (wrap64 (t320 + 1)))).heap[gb302]? = some (.cells #[.slice none 0 0,.int .i64 0] 28 (0,0))) := ⟨kF BK302.out⟩
      have n4_ : Aside0 (((w82.setCell ⟨gb321,0,none⟩ (.slice Ao83 y324.length co83)).setCell ⟨gb321,1,none⟩ (.int .i64 (wrap64 (t320 + 1)))).heap[gb321]? = some (.cells #[.slice Ao83 y324.length co83,.int .i64 (wrap64 (t320 + 1))] 28 (0,0))) := ⟨by (with_reducible repeat (first | refine blk_drewN ?_ _ | refine blk_drew ?_ | refine blk_alloc ?_ _)); refine blk_put (cs := #[.slice Ao83 y324.length co83,.int .i64 t320]) ?_ 1 _ rfl; (with_reducible repeat (first | refine blk_drewN ?_ _ | refine blk_drew ?_ | refine blk_alloc ?_ _)); refine blk_put (cs := #[.slice Ao69 t317.length co69,.int .i64 t320]) ?_ 0 _ rfl; (with_reducible repeat (first | refine blk_drewN ?_ _ | refine blk_drew ?_ | refine blk_alloc ?_ _)); exact BK321.out⟩
      have n5_ : Aside0 (((w82.setCell ⟨gb321,0,none⟩ (.slice Ao83 y324.length co83)).setCell ⟨gb321,1,none⟩ (.int .i64 (wrap64 (t320 + 1)))).heap[gb322]? = some (.cells #[.string a1,.int .i64 a0_1,.string a2] 71 (0,0))) := ⟨kF BK322.out⟩
      have n6_ : Aside0 (Below w.heap.size w ((w82.setCell ⟨gb321,0,none⟩ (.slice Ao83 y324.length co83)).setCell ⟨gb321,1,none⟩ (.int .i64 (wrap64 (t320 + 1))))) := ⟨bA⟩
      (try clear HO_302000)
      (try clear HO326)
      (try clear BK301)
      (try clear BK302)
      (try clear BK321)
      (try clear BK322)
      (try clear HB)
      generalize ((w82.setCell ⟨gb321,0,none⟩ (.slice Ao83 y324.length co83)).setCell ⟨gb321,1,none⟩ (.int .i64 (wrap64 (t320 + 1)))) = w85 at n0_ n1_ n2_ n3_ n4_ n5_ n6_ ⊢
      have HO_302000 := n0_
      have HO326 := n1_
      have BK301 := n2_
      have BK302 := n3_
      have BK321 := n4_
      have BK322 := n5_
      have HB := n6_
      clear n0_ n1_ n2_ n3_ n4_ n5_ n6_
      have n0_ := Aside0.mk (Kd.V_drew HO_302000.out)
      have n1_ := Aside0.mk (Kd.R_drew HO326.out)
      have n2_ := Aside0.mk (blk_drew BK301.out)
      have n3_ := Aside0.mk (blk_drew BK302.out)
      have n4_ := Aside0.mk (blk_drew BK321.out)
      have n5_ := Aside0.mk (blk_drew BK322.out)
      have n6_ := Aside0.mk (below_drew1 HB.out)
      clear HO_302000
      clear HO326
      clear BK301
      clear BK302
      clear BK321
      clear BK322
      clear HB
      have HO_302000 := n0_
      have HO326 := n1_
      have BK301 := n2_
      have BK302 := n3_
      have BK321 := n4_
      have BK322 := n5_
      have HB := n6_
      clear n0_ n1_ n2_ n3_ n4_ n5_ n6_
      refine start_ (n:=6) (S:=fun w' => w'.cell? ⟨gb321,0,none⟩ = some (.slice Ao83 y324.length co83) ∧ w'.cell? ⟨gb321,1,none⟩ = some (.int .i64 (wrap64 (t320 + 1))) ∧ w'.cell? ⟨gb301,0,none⟩ = some (.slice A0_0 l0_0.length c0_0) ∧ w'.cell? ⟨gb301,1,none⟩ = some (.int .i64 a0_1)) (ds := []) (bm 6 0) (by kernel_rfl) rfl rfl ⟨(blk_cell BK321.out 0).trans rfl,(blk_cell BK321.out 1).trans rfl,(blk_cell BK301.out 0).trans rfl,(blk_cell BK301.out 1).trans rfl⟩ (fun hHeld => ?_)
      generalize w85.drew = w86 at HO_302000 HO326 BK301 BK302 BK321 BK322 HB hHeld ⊢
      refine pure_ (i:=1) (N:=some 71) (v:=?_) (a':=?_) (bm 6 2) rfl rfl (by kernel_rfl) (fun _ _ _ h => h) (Or.inl ⟨by rfl,?_⟩) ?_ ?_
      rotate_left
      ·intro w'
       go_simp
       with_reducible rfl
      rotate_left
      ·simp only [Act.put,setIfInBounds_toArray,set_cons_zero,set_cons_succ,i64_w,i32_w]
       rfl
      refine take_ (i:=0) (N:=some 70) (v:=?_) (a':=?_) (bm 6 3) rfl rfl (by kernel_rfl) (fun _ _ _ h => h) (Or.inl ⟨by rfl,?_⟩) hHeld ?_ ?_
      rotate_left
      ·rintro w' ⟨s0,s1,s2,s3⟩
       go_simp
       with_reducible rfl
      rotate_left
      ·simp only [Act.put,setIfInBounds_toArray,set_cons_zero,set_cons_succ,i64_w,i32_w]
       rfl
      refine take_ (i:=2) (N:=some 72) (v:=?_) (a':=?_) (bm 6 7) rfl rfl (by kernel_rfl) (fun _ _ _ h => h) (Or.inl ⟨by rfl,?_⟩) hHeld ?_ ?_
      rotate_left
      ·rintro w' ⟨s0,s1,s2,s3⟩
       go_simp
       with_reducible rfl
      rotate_left
      ·simp only [Act.put,setIfInBounds_toArray,set_cons_zero,set_cons_succ,i64_w,i32_w]
       rfl
      refine one_ (i:=3) (N:=none) (bm 6 15) rfl rfl (by kernel_rfl) (by decide) (fun K hK => ?_)
      have hs87 : w86.cell? ⟨gb302,0,none⟩ = some (.slice none 0 0) := (blk_cell BK302.out 0).trans rfl
      have hfs87 := blk_frozen BK302.out 0
      have hns87_0 := NB301_302.out
      have hns87_2 := NB321_302.out
      have hns87_3 := NB322_302.out
      have hms87_0 := NB302_301.out
      have hms87_2 := NB302_321.out
      have hms87_3 := NB302_322.out
      have hs88 : w86.cell? ⟨gb302,1,none⟩ = some (.int .i64 0) := (blk_cell BK302.out 1).trans rfl
      have hfs88 := blk_frozen BK302.out 1
      have hns88_0 := NB301_302.out
      have hns88_2 := NB321_302.out
      have hns88_3 := NB322_302.out
      have hms88_0 := NB302_301.out
      have hms88_2 := NB302_321.out
      have hms88_3 := NB302_322.out
      refine skip_ (w1 := ?_) (by rfl) rfl ?_ ?_
      rotate_left
      ·go_simp
       rfl
      refine hK.out _ _ ⟨((cell_far (p:=⟨gb302,_,none⟩) NB321_302.out _).trans (((cell_far (p:=⟨gb302,_,none⟩) NB321_302.out _).trans (hHeld.1)))),((cell_far (p:=⟨gb302,_,none⟩) NB321_302.out _).trans (((cell_far (p:=⟨gb302,_,none⟩) NB321_302.out _).trans (hHeld.2.1)))),((cell_far (p:=⟨gb302,_,none⟩) NB301_302.out _).trans (((cell_far (p:=⟨gb302,_,none⟩) NB301_302.out _).trans (hHeld.2.2.1)))),((cell_far (p:=⟨gb302,_,none⟩) NB301_302.out _).trans (((cell_far (p:=⟨gb302,_,none⟩) NB301_302.out _).trans (hHeld.2.2.2))))⟩ (fun hHeld => ?_)
      clear hK K
      refine pure_ (i:=4) (N:=some 7) (v:=?_) (a':=?_) (bm 6 31) rfl rfl (by kernel_rfl) (fun _ _ _ h => h) (Or.inl ⟨by rfl,?_⟩) ?_ ?_
      rotate_left
      ·intro w'
       go_simp
       with_reducible rfl
      rotate_left
      ·simp only [Act.put,setIfInBounds_toArray,set_cons_zero,set_cons_succ,i64_w,i32_w]
       rfl
      refine pure_ (i:=5) (N:=some 8) (v:=?_) (a':=?_) (bm 6 63) rfl rfl (by kernel_rfl) (fun _ _ _ h => h) (Or.inl ⟨by rfl,?_⟩) ?_ ?_
      rotate_left
      ·intro w'
       go_simp
       with_reducible rfl
      rotate_left
      ·simp only [Act.put,setIfInBounds_toArray,set_cons_zero,set_cons_succ,i64_w,i32_w]
       rfl
      refine done_ (by kernel_rfl) ?_
      try go_wp2
      refine bodyPost_ret (results_ctt rfl _ _ gb302 28 #[.slice Ao83 y324.length co83,.int .i64 (wrap64 (t320 + 1))] (0,0) _ rfl (by (with_reducible repeat (first | refine blk_drewN ?_ _ | refine blk_drew ?_ | refine blk_alloc ?_ _)); refine blk_put (cs := #[.slice Ao83 y324.length co83,.int .i64 0]) ?_ 1 _ rfl; (with_reducible repeat (first | refine blk_drewN ?_ _ | refine blk_drew ?_ | refine blk_alloc ?_ _)); refine blk_put (cs := #[.slice none 0 0,.int .i64 0]) ?_ 0 _ rfl; (with_reducible repeat (first | refine blk_drewN ?_ _ | refine blk_drew ?_ | refine blk_alloc ?_ _)); exact BK302.out) Try.underlying28 rfl (by kernel_rfl)) rfl ?_
      exact ⟨_,by first | rfl | (simp only [i64_w,i32_w] <;> rfl) | (simp [errW_none,errW_some] <;> rfl) | (simp [*,errW_none,errW_some] <;> rfl),Kd.V_mono (Kd.R_V (by (with_reducible repeat (first | apply Kd.R_alloc | apply Kd.R_drewN | apply Kd.R_drew)); exact Kd.R_mono (Kd.R_far (p:=⟨gb302,1,none⟩) (Kd.R_far (p:=⟨gb302,0,none⟩) (Kd.R_types HO326.out BK302.out (by decide)) (fun _ hk => hk.2) (.slice Ao83 y324.length co83)) (fun _ hk => hk.2) (.int .i64 (wrap64 (t320 + 1)))) (fun _ hk => hk.1.1))) (fun k_ hk => by first | exact ⟨(.inr (hk.1)),hk.2⟩ | exact (.inr (hk))),bA⟩
     ·rw [if_neg c63] at H
      exact absurd H (by simp)
   ·rw [if_neg c31] at H
    have c31b0 : (x11_4 == 0) = false := beq_eq_false_iff_ne.mpr c31
    have c31b1 : (x11_4 != 0) = true := bne_iff_ne.mpr c31
    simp only [Option.some.injEq,Prod.mk.injEq] at H
    obtain ⟨rfl,rfl,rfl,rfl⟩ := H
    have hnb89 := NB301_302.out
    have hnc89 := NB302_301.out
    have hcz90_0 : wc.cell? ⟨gb301,0,none⟩ = some (.slice A0_0 l0_0.length c0_0) := (blk_cell BK301.out 0).trans rfl
    have hcz90_1 : wc.cell? ⟨gb301,1,none⟩ = some (.int .i64 a0_1) := (blk_cell BK301.out 1).trans rfl
    have hfz90_0 := blk_frozen BK301.out 0
    have hfz90_1 := blk_frozen BK301.out 1
    have hcz91_0 : wc.cell? ⟨gb302,0,none⟩ = some (.slice none 0 0) := (blk_cell BK302.out 0).trans rfl
    have hcz91_1 : wc.cell? ⟨gb302,1,none⟩ = some (.int .i64 0) := (blk_cell BK302.out 1).trans rfl
    have hfz91_0 := blk_frozen BK302.out 0
    have hfz91_1 := blk_frozen BK302.out 1
    go_wp2
    refine bodyPost_ret (results_ctt rfl _ _ gb302 28 #[.slice A0_0 l0_0.length c0_0,.int .i64 a0_1] (0,0) _ rfl (by (with_reducible repeat (first | refine blk_drewN ?_ _ | refine blk_drew ?_ | refine blk_alloc ?_ _)); refine blk_put (cs := #[.slice A0_0 l0_0.length c0_0,.int .i64 0]) ?_ 1 _ rfl; (with_reducible repeat (first | refine blk_drewN ?_ _ | refine blk_drew ?_ | refine blk_alloc ?_ _)); refine blk_put (cs := #[.slice none 0 0,.int .i64 0]) ?_ 0 _ rfl; (with_reducible repeat (first | refine blk_drewN ?_ _ | refine blk_drew ?_ | refine blk_alloc ?_ _)); exact BK302.out) Try.underlying28 rfl (by kernel_rfl)) rfl ?_
    exact ⟨_,by first | rfl | (simp only [i64_w,i32_w] <;> rfl) | (simp [errW_none,errW_some] <;> rfl) | (simp [*,errW_none,errW_some] <;> rfl),by (with_reducible repeat (first | apply Kd.V_alloc | apply Kd.V_drewN | apply Kd.V_drew)); exact Kd.V_mono (Kd.V_far (p:=⟨gb302,1,none⟩) (Kd.V_far (p:=⟨gb302,0,none⟩) (Kd.V_mono HO_302000.out (fun k_ hk => (⟨hk,hk.2.2⟩ : _ ∧ k_ ≠ gb302))) (fun _ hk => hk.2) (.slice A0_0 l0_0.length c0_0)) (fun _ hk => hk.2) (.int .i64 a0_1)) (fun _ hk => hk.1.1),bA⟩

end Go.Proofs.Ytbodkbaniebfaaa.XFnExactPutAbsent
