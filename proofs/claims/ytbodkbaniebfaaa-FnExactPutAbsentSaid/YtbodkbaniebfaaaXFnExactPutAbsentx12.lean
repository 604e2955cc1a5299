-- Printed by this session's own program wip/tools/xprint.py, which widens the kit's print. Not trusted: Lean checks it.
import Derived.Test.YtbodkbaniebfaaaXFnExactPutAbsentx0
import Derived.Test.YtbodkbaniebfaaaXFnExactPutAbsentx8
import Derived.Test.YtbodkbaniebfaaaXFnExactPutAbsentx10
import Derived.Test.YtbodkbaniebfaaaXFnExactPutAbsentx11
namespace Go.Proofs.Ytbodkbaniebfaaa.XFnExactPutAbsent
open List (setIfInBounds_toArray set_cons_zero set_cons_succ)
open Go.RowKit Go.Proofs.YtbodkbaniebfaaaW.PrintWords Go.Proofs.YtbodkbaniebfaaaW.PrintLast Go.Proofs.YtbodkbaniebfaaaW.PrintMore
attribute [local go_sem] max2_int min2_int max_two min_two max_three min_three max_four min_four   -- for this text's walks alone
set_option linter.unusedVariables false
set_option linter.unusedSimpArgs false

/-! ### impl_Store_putAbsent: function 48 -/
def impl_Store_putAbsent.f (k : Nat) (l0_0 : List (S71)) (a0_1 : Int) (a1 : ByteArray) (a2 : ByteArray) : Option ((List (S71)) × Int × Int × Int) := (impl_Store_find.f l0_0 a0_1 a1).bind fun bt329 => (if bt329.2 = true then (some (l0_0,a0_1,0,9)) else ((impl_Store_put.f k l0_0 a0_1 a1 a2).bind fun bt331 => (some (bt331.1,bt331.2.1,bt331.2.2.1,bt331.2.2.2))))
theorem impl_Store_putAbsent.mono : ∀ a0 a1 a2 a3 k,LeO (impl_Store_putAbsent.f k a0 a1 a2 a3) (impl_Store_putAbsent.f (k + 1) a0 a1 a2 a3) := by
 intro a0 a1 a2 a3 k
 unfold impl_Store_putAbsent.f
 repeat' first
   | (with_reducible exact impl_Store_put.mono _ _ _ _ _)
   | (with_reducible exact LeO.refl _)
   | (with_reducible exact LeO.none _)
   | (with_reducible refine LeO.ite ?_ ?_)
   | (with_reducible refine LeO.bind ?_ (fun _ => ?_))
   | exact impl_Store_put.mono _ _ _ _ _
   | exact LeO.none _
   | refine LeO.ite ?_ ?_
   | refine LeO.bind ?_ (fun _ => ?_)
set_option maxHeartbeats 8000000 in
set_option maxRecDepth 100000 in
theorem impl_Store_putAbsent.calls (k : Nat) (P0_0_ : Nat → Prop) (A0_0 : Option Addr) (c0_0 : Nat) (l0_0 : List (S71)) (a0_1 : Int) (a1 : ByteArray) (a2 : ByteArray) (r1 : List (S71)) (r2 : Int) (r3 : Int) (r4 : Int) (w : World) (hs0_0 : Kd.V k71 71 w w.heap.size (fun k_ => P0_0_ k_) (.slice A0_0 l0_0.length c0_0) l0_0) (h : impl_Store_putAbsent.f k l0_0 a0_1 a1 a2 = some (r1,r2,r3,r4)) :
  Calls Try.prog 48 #[.agg #[.slice A0_0 l0_0.length c0_0,.int .i64 a0_1],.string a1,.string a2] w fun e w' => ∃ v0_ : Value,e = .returned (.tuple #[.agg #[v0_,.int .i64 r2],.int .i64 r3,.int .i64 r4]) ∧ Kd.V k71 71 w' w.heap.size (fun k_ => (P0_0_ k_ ∨ w.heap.size ≤ k_)) v0_ r1 ∧ Below w.heap.size w w' := by
 have hu28 := Try.underlying28
 have HO0_0 := Aside0.mk (show Kd.V k71 71 w w.heap.size (fun k_ => (P0_0_ k_ ∨ w.heap.size ≤ k_)) (.slice A0_0 l0_0.length c0_0) l0_0 from Kd.V_mono hs0_0 (fun k_ hk => .inl hk))
 have HB := Aside0.mk (Below.refl w.heap.size w)
 have H : ((impl_Store_find.f l0_0 a0_1 a1).bind fun bt329 => (if bt329.2 = true then (some (l0_0,a0_1,0,9)) else ((impl_Store_put.f k l0_0 a0_1 a1 a2).bind fun bt331 => (some (bt331.1,bt331.2.1,bt331.2.2.1,bt331.2.2.2))))) = some (r1,r2,r3,r4) := h
 clear h
 replace H := Option.bind_eq_some_iff.mp H
 obtain ⟨⟨t329,t330⟩,A40,H⟩ := H
 try dsimp only at H
 have A4 := Aside0.mk A40
 clear A40
 by_cases c5 : t330 = true
 ·subst c5
  rw [if_pos rfl] at H
  simp only [Option.some.injEq,Prod.mk.injEq] at H
  obtain ⟨rfl,rfl,rfl,rfl⟩ := H
  go_enter Try.func48,Try.ntmps48
  go_wp2_with (first | ((with_reducible refine gate_dst (N:=3) rfl ?_); refine box_event ?hg (N:=3) ?hd (cs := #[.slice A0_0 l0_0.length c0_0,.int .i64 a0_1]) (t:=28) ?hr ?_; (case hd => rfl); (case hg => rfl); (case hr => first | (go_simp; done) | (go_simp; rfl)); intro gb327 hg w6 hbox hb; have n0_ := Aside0.mk (Kd.V_below (Kd.V_elderB (by (with_reducible repeat (first | apply Kd.V_alloc | apply Kd.V_drewN | apply Kd.V_drew)); exact HO0_0.out) gb327 (Nat.le_of_eq hg.symm)) hb); have n1_ := Aside0.mk (below_step bA hb); have n2_ := Aside0.mk (hbox); have n3_ := Aside0.mk ((by rw [hg]; exact (below_size bA) : w.heap.size ≤ gb327)); have n4_ := Aside0.mk ((by rw [hg]; exact (below_size bA) : w.heap.size ≤ gb327)); clear HO0_0; clear HB; have HO0_0 := n0_; have HB := n1_; have BK327 := n2_; have GW327 := n3_; have GE327 := n4_; clear n0_ n1_ n2_ n3_ n4_; clear hb hbox hg) | ((with_reducible refine gate_dst (N:=6) rfl ?_); refine box_event ?hg (N:=6) ?hd (cs := #[.slice none 0 0,.int .i64 0]) (t:=28) ?hr ?_; (case hd => rfl); (case hg => rfl); (case hr => first | (go_simp; done) | (go_simp; rfl)); intro gb328 hg w7 hbox hb; have n0_ := Aside0.mk (Kd.V_below (Kd.V_elderB (by (with_reducible repeat (first | apply Kd.V_alloc | apply Kd.V_drewN | apply Kd.V_drew)); exact HO0_0.out) gb328 (Nat.le_of_eq hg.symm)) hb); have n1_ := Aside0.mk (blk_below (g:=gb327) (o:=.cells #[.slice A0_0 l0_0.length c0_0,.int .i64 a0_1] 28 (0,0)) (kA BK327.out) hb); have n2_ := Aside0.mk (below_step bA hb); have n3_ := Aside0.mk (hbox); have n4_ := Aside0.mk ((by rw [hg]; exact (below_size bA) : w.heap.size ≤ gb328)); have n5_ := Aside0.mk ((by rw [hg]; exact (below_size bA) : w.heap.size ≤ gb328)); have n6_ := Aside0.mk ((by rw [hg]; exact Nat.ne_of_lt (blk_lt (g:=gb327) (o:=.cells #[.slice A0_0 l0_0.length c0_0,.int .i64 a0_1] 28 (0,0)) (kA BK327.out)) : gb327 ≠ gb328)); have n7_ := Aside0.mk ((by rw [hg]; exact Nat.ne_of_gt (blk_lt (g:=gb327) (o:=.cells #[.slice A0_0 l0_0.length c0_0,.int .i64 a0_1] 28 (0,0)) (kA BK327.out)) : gb328 ≠ gb327)); clear HO0_0; clear BK327; clear HB; have HO0_0 := n0_; have BK327 := n1_; have HB := n2_; have BK328 := n3_; have GW328 := n4_; have GE328 := n5_; have NB327_328 := n6_; have NB328_327 := n7_; clear n0_ n1_ n2_ n3_ n4_ n5_ n6_ n7_; clear hb hbox hg; have hnb8 := NB327_328.out; have hnc8 := NB328_327.out; have hcz9_0 : w7.cell? ⟨gb327,0,none⟩ = some (.slice A0_0 l0_0.length c0_0) := (blk_cell BK327.out 0).trans rfl; have hcz9_1 : w7.cell? ⟨gb327,1,none⟩ = some (.int .i64 a0_1) := (blk_cell BK327.out 1).trans rfl; have hfz9_0 := blk_frozen BK327.out 0; have hfz9_1 := blk_frozen BK327.out 1) | ((with_reducible refine gate_callee (f:=58) rfl ?_); refine goesL_ (some 14) rfl rfl Try.func58 (by kernel_rfl) rfl #[.agg #[.slice A0_0 l0_0.length c0_0,.int .i64 a0_1],.string a1] rfl mA ?_; (with_reducible refine (impl_Store_find.calls _ _ l0_0 a0_1 a1 t329 true _ ?side1 ?side2 A4.out).mono ?_); (case side1 => repeat (first | exact (Kd.V_reads' HO0_0.out).2.2 | (with_reducible refine Kd.C_alloc ?_ _) | (with_reducible refine Kd.C_drewN ?_ _) | (with_reducible refine Kd.C_drew ?_))); (case side2 => exact (Kd.V_reads' HO0_0.out).2.1); rintro e w10 ⟨rfl,hb⟩; refine ⟨_,rfl,?_⟩; have n0_ := Aside0.mk (Kd.V_below (by (with_reducible repeat (first | apply Kd.V_alloc | apply Kd.V_drewN | apply Kd.V_drew)); exact HO0_0.out) hb); have n1_ := Aside0.mk (blk_below (g:=gb327) (o:=.cells #[.slice A0_0 l0_0.length c0_0,.int .i64 a0_1] 28 (0,0)) (kA BK327.out) hb); have n2_ := Aside0.mk (blk_below (g:=gb328) (o:=.cells #[.slice none 0 0,.int .i64 0] 28 (0,0)) (kA BK328.out) hb); have n3_ := Aside0.mk (below_step bA hb); clear HO0_0; clear BK327; clear BK328; clear HB; have HO0_0 := n0_; have BK327 := n1_; have BK328 := n2_; have HB := n3_; clear n0_ n1_ n2_ n3_; (try clear hb); (try clear hb2); (try clear hk); (try clear hi); have hcz11_0 : w10.cell? ⟨gb327,0,none⟩ = some (.slice A0_0 l0_0.length c0_0) := (blk_cell BK327.out 0).trans rfl; have hcz11_1 : w10.cell? ⟨gb327,1,none⟩ = some (.int .i64 a0_1) := (blk_cell BK327.out 1).trans rfl; have hfz11_0 := blk_frozen BK327.out 0; have hfz11_1 := blk_frozen BK327.out 1; have hcz12_0 : w10.cell? ⟨gb328,0,none⟩ = some (.slice none 0 0) := (blk_cell BK328.out 0).trans rfl; have hcz12_1 : w10.cell? ⟨gb328,1,none⟩ = some (.int .i64 0) := (blk_cell BK328.out 1).trans rfl; have hfz12_0 := blk_frozen BK328.out 0; have hfz12_1 := blk_frozen BK328.out 1))
  refine bodyPost_ret (results_ctt rfl _ _ gb328 28 #[.slice A0_0 l0_0.length c0_0,.int .i64 a0_1] (0,0) _ rfl (by (with_reducible repeat (first | refine blk_drewN ?_ _ | refine blk_drew ?_ | refine blk_alloc ?_ _)); refine blk_put (cs := #[.slice A0_0 l0_0.length c0_0,.int .i64 0]) ?_ 1 _ rfl; (with_reducible repeat (first | refine blk_drewN ?_ _ | refine blk_drew ?_ | refine blk_alloc ?_ _)); refine blk_put (cs := #[.slice none 0 0,.int .i64 0]) ?_ 0 _ rfl; (with_reducible repeat (first | refine blk_drewN ?_ _ | refine blk_drew ?_ | refine blk_alloc ?_ _)); exact BK328.out) Try.underlying28 rfl (by kernel_rfl)) rfl ?_
  exact ⟨_,by first | rfl | (simp [errW_none,errW_some] <;> rfl) | (simp [*,errW_none,errW_some] <;> rfl),by (with_reducible repeat (first | apply Kd.V_alloc | apply Kd.V_drewN | apply Kd.V_drew)); exact Kd.V_mono (Kd.V_far (p:=⟨gb328,1,none⟩) (Kd.V_far (p:=⟨gb328,0,none⟩) (Kd.V_mono HO0_0.out (fun k_ hk => (⟨hk,hk.2⟩ : _ ∧ k_ ≠ gb328))) (fun _ hk => hk.2) (.slice A0_0 l0_0.length c0_0)) (fun _ hk => hk.2) (.int .i64 a0_1)) (fun _ hk => hk.1.1.1),bA⟩
 ·replace c5 := Bool.eq_false_iff.mpr c5
  subst c5
  rw [if_neg (show ¬ (false = true) by decide)] at H
  replace H := Option.bind_eq_some_iff.mp H
  obtain ⟨⟨t331,t334,t335,t336⟩,A130,H⟩ := H
  try dsimp only at H
  have A13 := Aside0.mk A130
  clear A130
  simp only [Option.some.injEq,Prod.mk.injEq] at H
  obtain ⟨rfl,rfl,rfl,rfl⟩ := H
  go_enter Try.func48,Try.ntmps48
  go_wp2_with (first | ((with_reducible refine gate_dst (N:=3) rfl ?_); refine box_event ?hg (N:=3) ?hd (cs := #[.slice A0_0 l0_0.length c0_0,.int .i64 a0_1]) (t:=28) ?hr ?_; (case hd => rfl); (case hg => rfl); (case hr => first | (go_simp; done) | (go_simp; rfl)); intro gb327 hg w14 hbox hb; have n0_ := Aside0.mk (Kd.V_below (Kd.V_elderB (by (with_reducible repeat (first | apply Kd.V_alloc | apply Kd.V_drewN | apply Kd.V_drew)); exact HO0_0.out) gb327 (Nat.le_of_eq hg.symm)) hb); have n1_ := Aside0.mk (below_step bA hb); have n2_ := Aside0.mk (hbox); have n3_ := Aside0.mk ((by rw [hg]; exact (below_size bA) : w.heap.size ≤ gb327)); have n4_ := Aside0.mk ((by rw [hg]; exact (below_size bA) : w.heap.size ≤ gb327)); clear HO0_0; clear HB; have HO0_0 := n0_; have HB := n1_; have BK327 := n2_; have GW327 := n3_; have GE327 := n4_; clear n0_ n1_ n2_ n3_ n4_; clear hb hbox hg) | ((with_reducible refine gate_dst (N:=6) rfl ?_); refine box_event ?hg (N:=6) ?hd (cs := #[.slice none 0 0,.int .i64 0]) (t:=28) ?hr ?_; (case hd => rfl); (case hg => rfl); (case hr => first | (go_simp; done) | (go_simp; rfl)); intro gb328 hg w15 hbox hb; have n0_ := Aside0.mk (Kd.V_below (Kd.V_elderB (by (with_reducible repeat (first | apply Kd.V_alloc | apply Kd.V_drewN | apply Kd.V_drew)); exact HO0_0.out) gb328 (Nat.le_of_eq hg.symm)) hb); have n1_ := Aside0.mk (blk_below (g:=gb327) (o:=.cells #[.slice A0_0 l0_0.length c0_0,.int .i64 a0_1] 28 (0,0)) (kA BK327.out) hb); have n2_ := Aside0.mk (below_step bA hb); have n3_ := Aside0.mk (hbox); have n4_ := Aside0.mk ((by rw [hg]; exact (below_size bA) : w.heap.size ≤ gb328)); have n5_ := Aside0.mk ((by rw [hg]; exact (below_size bA) : w.heap.size ≤ gb328)); have n6_ := Aside0.mk ((by rw [hg]; exact Nat.ne_of_lt (blk_lt (g:=gb327) (o:=.cells #[.slice A0_0 l0_0.length c0_0,.int .i64 a0_1] 28 (0,0)) (kA BK327.out)) : gb327 ≠ gb328)); have n7_ := Aside0.mk ((by rw [hg]; exact Nat.ne_of_gt (blk_lt (g:=gb327) (o:=.cells #[.slice A0_0 l0_0.length c0_0,.int .i64 a0_1] 28 (0,0)) (kA BK327.out)) : gb328 ≠ gb327)); clear HO0_0; clear BK327; clear HB; have HO0_0 := n0_; have BK327 := n1_; have HB := n2_; have BK328 := n3_; have GW328 := n4_; have GE328 := n5_; have NB327_328 := n6_; have NB328_327 := n7_; clear n0_ n1_ n2_ n3_ n4_ n5_ n6_ n7_; clear hb hbox hg; have hnb16 := NB327_328.out; have hnc16 := NB328_327.out; have hcz17_0 : w15.cell? ⟨gb327,0,none⟩ = some (.slice A0_0 l0_0.length c0_0) := (blk_cell BK327.out 0).trans rfl; have hcz17_1 : w15.cell? ⟨gb327,1,none⟩ = some (.int .i64 a0_1) := (blk_cell BK327.out 1).trans rfl; have hfz17_0 := blk_frozen BK327.out 0; have hfz17_1 := blk_frozen BK327.out 1) | ((with_reducible refine gate_callee (f:=58) rfl ?_); refine goesL_ (some 14) rfl rfl Try.func58 (by kernel_rfl) rfl #[.agg #[.slice A0_0 l0_0.length c0_0,.int .i64 a0_1],.string a1] rfl mA ?_; (with_reducible refine (impl_Store_find.calls _ _ l0_0 a0_1 a1 t329 false _ ?side1 ?side2 A4.out).mono ?_); (case side1 => repeat (first | exact (Kd.V_reads' HO0_0.out).2.2 | (with_reducible refine Kd.C_alloc ?_ _) | (with_reducible refine Kd.C_drewN ?_ _) | (with_reducible refine Kd.C_drew ?_))); (case side2 => exact (Kd.V_reads' HO0_0.out).2.1); rintro e w18 ⟨rfl,hb⟩; refine ⟨_,rfl,?_⟩; have n0_ := Aside0.mk (Kd.V_below (by (with_reducible repeat (first | apply Kd.V_alloc | apply Kd.V_drewN | apply Kd.V_drew)); exact HO0_0.out) hb); have n1_ := Aside0.mk (blk_below (g:=gb327) (o:=.cells #[.slice A0_0 l0_0.length c0_0,.int .i64 a0_1] 28 (0,0)) (kA BK327.out) hb); have n2_ := Aside0.mk (blk_below (g:=gb328) (o:=.cells #[.slice none 0 0,.int .i64 0] 28 (0,0)) (kA BK328.out) hb); have n3_ := Aside0.mk (below_step bA hb); clear HO0_0; clear BK327; clear BK328; clear HB; have HO0_0 := n0_; have BK327 := n1_; have BK328 := n2_; have HB := n3_; clear n0_ n1_ n2_ n3_; (try clear hb); (try clear hb2); (try clear hk); (try clear hi); have hcz19_0 : w18.cell? ⟨gb327,0,none⟩ = some (.slice A0_0 l0_0.length c0_0) := (blk_cell BK327.out 0).trans rfl; have hcz19_1 : w18.cell? ⟨gb327,1,none⟩ = some (.int .i64 a0_1) := (blk_cell BK327.out 1).trans rfl; have hfz19_0 := blk_frozen BK327.out 0; have hfz19_1 := blk_frozen BK327.out 1) | ((with_reducible refine gate_callee (f:=50) rfl ?_); refine goesL_ (some 22) rfl rfl Try.func50 (by kernel_rfl) rfl #[.agg #[.slice A0_0 l0_0.length c0_0,.int .i64 a0_1],.string a1,.string a2] rfl mA ?_; (with_reducible refine (impl_Store_put.calls k (fun k_ => (((P0_0_ k_ ∨ w.heap.size ≤ k_) ∧ k_ ≠ gb327) ∧ k_ ≠ gb328)) _ _ l0_0 a0_1 a1 a2 t331 t334 t335 t336 _ ?side1 A13.out).mono ?_); (case side1 => exact HO0_0.out); rintro e w20 ⟨v332,rfl,ho0,hb⟩; refine ⟨_,rfl,?_⟩; have n0_ := Aside0.mk (Kd.V_below (by (with_reducible repeat (first | apply Kd.V_alloc | apply Kd.V_drewN | apply Kd.V_drew)); exact HO0_0.out) hb); have n1_ := Aside0.mk (Kd.V_lower (Kd.V_mono (ok' := fun k_ => (P0_0_ k_ ∨ w.heap.size ≤ k_) ∧ k_ ≠ gb327 ∧ k_ ≠ gb328) ho0 (fun k_ hk_ => ⟨Or.elim hk_ (fun hs_ => hs_.1.1) (fun hn_ => (.inr (Nat.le_trans (below_size bA) hn_))),Or.elim hk_ (fun hs_ => hs_.1.2) (fun hn_ => (Kd.freshB (g:=gb327) (o:=.cells #[.slice A0_0 l0_0.length c0_0,.int .i64 a0_1] 28 (0,0)) (kA BK327.out) k_ hn_)),Or.elim hk_ (fun hs_ => hs_.2) (fun hn_ => (Kd.freshB (g:=gb328) (o:=.cells #[.slice none 0 0,.int .i64 0] 28 (0,0)) (kA BK328.out) k_ hn_))⟩)) (below_size bA)); have n2_ := Aside0.mk (blk_below (g:=gb327) (o:=.cells #[.slice A0_0 l0_0.length c0_0,.int .i64 a0_1] 28 (0,0)) (kA BK327.out) hb); have n3_ := Aside0.mk (blk_below (g:=gb328) (o:=.cells #[.slice none 0 0,.int .i64 0] 28 (0,0)) (kA BK328.out) hb); have n4_ := Aside0.mk (below_step bA hb); clear HO0_0; clear BK327; clear BK328; clear HB; have HO0_0 := n0_; have HO333 := n1_; have BK327 := n2_; have BK328 := n3_; have HB := n4_; clear n0_ n1_ n2_ n3_ n4_; (try clear hb); (try clear hb2); (try clear hk); (try clear hi); (try clear ho0); obtain ⟨Ao21,co21,eo21⟩ := Kd.V_slice HO333.out; subst eo21; have hcz22_0 : w20.cell? ⟨gb328,0,none⟩ = some (.slice none 0 0) := (blk_cell BK328.out 0).trans rfl; have hcz22_1 : w20.cell? ⟨gb328,1,none⟩ = some (.int .i64 0) := (blk_cell BK328.out 1).trans rfl; have hfz22_0 := blk_frozen BK328.out 0; have hfz22_1 := blk_frozen BK328.out 1))
  refine bodyPost_ret (results_ctt rfl _ _ gb328 28 #[.slice Ao21 t331.length co21,.int .i64 t334] (0,0) _ rfl (by (with_reducible repeat (first | refine blk_drewN ?_ _ | refine blk_drew ?_ | refine blk_alloc ?_ _)); refine blk_put (cs := #[.slice Ao21 t331.length co21,.int .i64 0]) ?_ 1 _ rfl; (with_reducible repeat (first | refine blk_drewN ?_ _ | refine blk_drew ?_ | refine blk_alloc ?_ _)); refine blk_put (cs := #[.slice none 0 0,.int .i64 0]) ?_ 0 _ rfl; (with_reducible repeat (first | refine blk_drewN ?_ _ | refine blk_drew ?_ | refine blk_alloc ?_ _)); exact BK328.out) Try.underlying28 rfl (by kernel_rfl)) rfl ?_
  exact ⟨_,by first | rfl | (simp [errW_none,errW_some] <;> rfl) | (simp [*,errW_none,errW_some] <;> rfl),by (with_reducible repeat (first | apply Kd.V_alloc | apply Kd.V_drewN | apply Kd.V_drew)); exact Kd.V_mono (Kd.V_far (p:=⟨gb328,1,none⟩) (Kd.V_far (p:=⟨gb328,0,none⟩) (Kd.V_mono HO333.out (fun k_ hk => (⟨hk,hk.2.2⟩ : _ ∧ k_ ≠ gb328))) (fun _ hk => hk.2) (.slice Ao21 t331.length co21)) (fun _ hk => hk.2) (.int .i64 t334)) (fun _ hk => hk.1.1),bA⟩

/-! ### impl_PutAbsent: function 20 -/
def impl_PutAbsent.f (k : Nat) (l0_0 : List (S71)) (a0_1 : Int) (a1 : ByteArray) (a2 : ByteArray) : Option ((List (S71)) × Int × Int × Int) := (impl_isLong.f (([a1,a2] : List ByteArray))).bind fun t342 => ((impl_storeCode.f k l0_0 a0_1 a1).bind fun t343 => ((impl_first.f k (([anyB t342,anyI 2,anyB true,anyI t343] : List AnyV))).bind fun t347 => (if t347 = 0 then ((impl_Store_putAbsent.f k l0_0 a0_1 a1 a2).bind fun bt348 => ((impl_Store_copied.f bt348.1 bt348.2.1).bind fun bt355 => (some (bt355.1,bt355.2,bt348.2.2.1,bt348.2.2.2)))) else (some (([] : List (S71)),0,0,t347)))))
theorem impl_PutAbsent.mono : ∀ a0 a1 a2 a3 k,LeO (impl_PutAbsent.f k a0 a1 a2 a3) (impl_PutAbsent.f (k + 1) a0 a1 a2 a3) := by
 intro a0 a1 a2 a3 k
 unfold impl_PutAbsent.f
 repeat' first
   | (with_reducible exact impl_Store_putAbsent.mono _ _ _ _ _)
   | (with_reducible exact impl_first.mono _ _)
   | (with_reducible exact impl_storeCode.mono _ _ _ _)
   | (with_reducible exact LeO.refl _)
   | (with_reducible exact LeO.none _)
   | (with_reducible refine LeO.ite ?_ ?_)
   | (with_reducible refine LeO.bind ?_ (fun _ => ?_))
   | exact impl_Store_putAbsent.mono _ _ _ _ _
   | exact impl_first.mono _ _
   | exact impl_storeCode.mono _ _ _ _
   | exact LeO.none _
   | refine LeO.ite ?_ ?_
   | refine LeO.bind ?_ (fun _ => ?_)
def impl_PutAbsent.T1 : Bool × List (List Nat × List Nat) := (true,[([],[]),([],[]),([0,1],[0,1]),([2],[2]),([3],[3]),([],[]),([],[]),([],[]),([],[]),([7,8,3],[7,8]),([9],[9]),([4,5,6,10],[4,5,6,10]),([11,9],[11]),([12,12,0,1,2,3,4,5,6,7,8,9,10,11,12],[12])])
def impl_PutAbsent.B1 : List Nat := [0,0,3,7,15,0,0,0,0,399,911,2047,4095,8191]
theorem impl_PutAbsent.tab1 : rtab .any (opsOf Try.f20 1) = impl_PutAbsent.T1 := by kernel_rfl
theorem impl_PutAbsent.bits1 : waitsOk impl_PutAbsent.T1.2 impl_PutAbsent.B1 = true := by kernel_rfl
set_option maxHeartbeats 8000000 in
set_option maxRecDepth 100000 in
theorem impl_PutAbsent.calls (k : Nat) (A0_0 : Option Addr) (c0_0 : Nat) (l0_0 : List (S71)) (a0_1 : Int) (a1 : ByteArray) (a2 : ByteArray) (r1 : List (S71)) (r2 : Int) (r3 : Int) (r4 : Int) (w : World) (hr0_0 : Kd.C k71 w A0_0 l0_0.length l0_0) (hc0_0 : l0_0.length ≤ c0_0) (h : impl_PutAbsent.f k l0_0 a0_1 a1 a2 = some (r1,r2,r3,r4)) :
  Calls Try.prog 20 #[.agg #[.slice A0_0 l0_0.length c0_0,.int .i64 a0_1],.string a1,.string a2] w fun e w' => ∃ v0_ : Value,e = .returned (.tuple #[.agg #[v0_,.int .i64 r2],.int .i64 r3,.int .i64 r4]) ∧ Kd.R k71 71 w' w.heap.size (fun _ => True) v0_ r1 ∧ Below w.heap.size w w' := by
 have hu28 := Try.underlying28
 have hua20 := Try.underlying20
 have HR0_0 := Aside0.mk hr0_0
 have HC0_0 := Aside0.mk hc0_0
 clear hr0_0 hc0_0
 have HB := Aside0.mk (Below.refl w.heap.size w)
 have H : ((impl_isLong.f (([a1,a2] : List ByteArray))).bind fun t342 => ((impl_storeCode.f k l0_0 a0_1 a1).bind fun t343 => ((impl_first.f k (([anyB t342,anyI 2,anyB true,anyI t343] : List AnyV))).bind fun t347 => (if t347 = 0 then ((impl_Store_putAbsent.f k l0_0 a0_1 a1 a2).bind fun bt348 => ((impl_Store_copied.f bt348.1 bt348.2.1).bind fun bt355 => (some (bt355.1,bt355.2,bt348.2.2.1,bt348.2.2.2)))) else (some (([] : List (S71)),0,0,t347)))))) = some (r1,r2,r3,r4) := h
 clear h
 obtain ⟨y339,hy339⟩ : ∃ y_ : List ByteArray,y_ = (([a1,a2] : List ByteArray)) := ⟨_,rfl⟩
 replace H : ((impl_isLong.f y339).bind fun t342 => ((impl_storeCode.f k l0_0 a0_1 a1).bind fun t343 => ((impl_first.f k (([anyB t342,anyI 2,anyB true,anyI t343] : List AnyV))).bind fun t347 => (if t347 = 0 then ((impl_Store_putAbsent.f k l0_0 a0_1 a1 a2).bind fun bt348 => ((impl_Store_copied.f bt348.1 bt348.2.1).bind fun bt355 => (some (bt355.1,bt355.2,bt348.2.2.1,bt348.2.2.2)))) else (some (([] : List (S71)),0,0,t347)))))) = some (r1,r2,r3,r4) := by first | (rw [hy339]; with_reducible exact H) | (have H2_ := (Option.bind_some _ _).symm.trans H; rw [hy339]; with_reducible exact H2_) | (have H2_ := (Option.bind_some _ _).symm.trans H; with_reducible exact H2_) | with_reducible exact H | (rw [hy339]; exact H) | exact H
 have Ny339 := Aside0.mk hy339
 clear hy339
 replace H := Option.bind_eq_some_iff.mp H
 obtain ⟨t342,A40,H⟩ := H
 try dsimp only at H
 have A4 := Aside0.mk A40
 clear A40
 replace H := Option.bind_eq_some_iff.mp H
 obtain ⟨t343,A50,H⟩ := H
 try dsimp only at H
 have A5 := Aside0.mk A50
 clear A50
 obtain ⟨y344,hy344⟩ : ∃ y_ : List AnyV,y_ = (([anyB t342,anyI 2,anyB true,anyI t343] : List AnyV)) := ⟨_,rfl⟩
 replace H : ((impl_first.f k y344).bind fun t347 => (if t347 = 0 then ((impl_Store_putAbsent.f k l0_0 a0_1 a1 a2).bind fun bt348 => ((impl_Store_copied.f bt348.1 bt348.2.1).bind fun bt355 => (some (bt355.1,bt355.2,bt348.2.2.1,bt348.2.2.2)))) else (some (([] : List (S71)),0,0,t347)))) = some (r1,r2,r3,r4) := by first | (rw [hy344]; with_reducible exact H) | (have H2_ := (Option.bind_some _ _).symm.trans H; rw [hy344]; with_reducible exact H2_) | (have H2_ := (Option.bind_some _ _).symm.trans H; with_reducible exact H2_) | with_reducible exact H | (rw [hy344]; exact H) | exact H
 have Ny344 := Aside0.mk hy344
 clear hy344
 replace H := Option.bind_eq_some_iff.mp H
 obtain ⟨t347,A60,H⟩ := H
 try dsimp only at H
 have A6 := Aside0.mk A60
 clear A60
 by_cases c7 : t347 = 0
 ·rw [if_pos c7] at H
  have c7b0 : (t347 == 0) = true := beq_iff_eq.mpr c7
  have c7b1 : (t347 != 0) = false := bne_eq_false_iff_eq.mpr c7
  clear c7
  replace H := Option.bind_eq_some_iff.mp H
  obtain ⟨⟨t348,t351,t352,t353⟩,A80,H⟩ := H
  try dsimp only at H
  have A8 := Aside0.mk A80
  clear A80
  replace H := Option.bind_eq_some_iff.mp H
  obtain ⟨⟨t355,t358⟩,A90,H⟩ := H
  try dsimp only at H
  have A9 := Aside0.mk A90
  clear A90
  simp only [Option.some.injEq,Prod.mk.injEq] at H
  obtain ⟨rfl,rfl,rfl,rfl⟩ := H
  go_enter Try.func20,Try.ntmps20
  try go_wp2_with (first | ((with_reducible refine gate_dst (N:=3) rfl ?_); refine box_event ?hg (N:=3) ?hd (cs := #[.slice A0_0 l0_0.length c0_0,.int .i64 a0_1]) (t:=28) ?hr ?_; (case hd => rfl); (case hg => rfl); (case hr => first | (go_simp; done) | (go_simp; rfl)); intro gb337 hg w10 hbox hb; have n0_ := Aside0.mk (below_step bA hb); have n1_ := Aside0.mk (hbox); have n2_ := Aside0.mk ((by rw [hg]; exact (below_size bA) : w.heap.size ≤ gb337)); have n3_ := Aside0.mk ((by rw [hg]; exact (below_size bA) : w.heap.size ≤ gb337)); clear HB; have HB := n0_; have BK337 := n1_; have GW337 := n2_; have GE337 := n3_; clear n0_ n1_ n2_ n3_; clear hb hbox hg) | ((with_reducible refine gate_dst (N:=6) rfl ?_); refine box_event ?hg (N:=6) ?hd (cs := #[.slice none 0 0,.int .i64 0]) (t:=28) ?hr ?_; (case hd => rfl); (case hg => rfl); (case hr => first | (go_simp; done) | (go_simp; rfl)); intro gb338 hg w11 hbox hb; have n0_ := Aside0.mk (blk_below (g:=gb337) (o:=.cells #[.slice A0_0 l0_0.length c0_0,.int .i64 a0_1] 28 (0,0)) (kA BK337.out) hb); have n1_ := Aside0.mk (below_step bA hb); have n2_ := Aside0.mk (hbox); have n3_ := Aside0.mk ((by rw [hg]; exact (below_size bA) : w.heap.size ≤ gb338)); have n4_ := Aside0.mk ((by rw [hg]; exact (below_size bA) : w.heap.size ≤ gb338)); have n5_ := Aside0.mk ((by rw [hg]; exact Nat.ne_of_lt (blk_lt (g:=gb337) (o:=.cells #[.slice A0_0 l0_0.length c0_0,.int .i64 a0_1] 28 (0,0)) (kA BK337.out)) : gb337 ≠ gb338)); have n6_ := Aside0.mk ((by rw [hg]; exact Nat.ne_of_gt (blk_lt (g:=gb337) (o:=.cells #[.slice A0_0 l0_0.length c0_0,.int .i64 a0_1] 28 (0,0)) (kA BK337.out)) : gb338 ≠ gb337)); clear BK337; clear HB; have BK337 := n0_; have HB := n1_; have BK338 := n2_; have GW338 := n3_; have GE338 := n4_; have NB337_338 := n5_; have NB338_337 := n6_; clear n0_ n1_ n2_ n3_ n4_ n5_ n6_; clear hb hbox hg))
  have n0_ := Aside0.mk (blk_drew BK337.out)
  have n1_ := Aside0.mk (blk_drew BK338.out)
  have n2_ := Aside0.mk (below_drew1 HB.out)
  clear BK337
  clear BK338
  clear HB
  have BK337 := n0_
  have BK338 := n1_
  have HB := n2_
  clear n0_ n1_ n2_
  refine start_ (n:=14) (S:=fun w' => w'.cell? ⟨gb337,0,none⟩ = some (.slice A0_0 l0_0.length c0_0) ∧ w'.cell? ⟨gb337,1,none⟩ = some (.int .i64 a0_1)) (ds := []) (bm 14 0) (by kernel_rfl) rfl rfl ⟨(blk_cell BK337.out 0).trans rfl,(blk_cell BK337.out 1).trans rfl⟩ (fun hHeld => ?_); refine with_tabW impl_PutAbsent.tab1 impl_PutAbsent.bits1 (fun HT_ HW_ => ?_)
  generalize w11.drew = w12 at BK337 BK338 HB hHeld ⊢
  refine pV_ 0 13 (bm 14 1) HT_.out ?_
  refine pV_ 1 14 (bm 14 3) HT_.out ?_
  refine pV_ 5 18 (bm 14 35) HT_.out ?_
  refine pV_ 6 19 (bm 14 99) HT_.out ?_
  refine pV_ 8 21 (bm 14 355) HT_.out ?_
  refine take_ (i:=7) (N:=some 20) (v:=?_) (a':=?_) (bm 14 483) rfl rfl (take_ofW HT_.out HW_.out (by kernel_rfl)) (fun _ _ _ h => h) (Or.inl ⟨by rfl,?_⟩) hHeld ?_ ?_
  rotate_left
  ·rintro w' ⟨s0,s1⟩
   go_simp
   with_reducible rfl
  rotate_left
  ·simp only [Act.put,setIfInBounds_toArray,set_cons_zero,set_cons_succ,i64_w,i32_w]
   rfl
  refine one_ (i:=2) (N:=some 15) (bm 14 487) rfl rfl (one_of HT_.out (by kernel_rfl)) (by decide) (fun K hK => ?_)
  refine Kd.R_lit_step Kd.string _ 9 ?hg (N:=15) ?hd (xs := ([a1,a2] : List ByteArray)) (inner := [.string a1,.string a2]) (ok := fun _ => True) (okp := fun _ => True) ?hr ?hp (fun _ hk => hk) trivial (Below.refl _ _) (Nat.le_refl _) (by simp) ?_; (case hd => rfl); (case hg => rfl); (case hr => first | (go_simp; done) | (go_simp; rfl)); (case hp => exact (Reps.one (show Kd.M Kd.string _ _ _ a1 [.string a1] from rfl) (Reps.one (show Kd.M Kd.string _ _ _ a2 [.string a2] from rfl) (Reps.none _ _))))
  intro v340 w13 ho14 hb hg_ hnew_
  clear hg_ hnew_
  (first | rw [← Ny339.out] at ho14 | (simp only [Int.reduceToNat] at ho14; rw [← Ny339.out] at ho14))
  have n0_ := Aside0.mk (Kd.R_lower ho14 (below_size bA))
  have n1_ := Aside0.mk (blk_below (g:=gb337) (o:=.cells #[.slice A0_0 l0_0.length c0_0,.int .i64 a0_1] 28 (0,0)) (kA BK337.out) hb)
  have n2_ := Aside0.mk (blk_below (g:=gb338) (o:=.cells #[.slice none 0 0,.int .i64 0] 28 (0,0)) (kA BK338.out) hb)
  have n3_ := Aside0.mk (below_step bA hb)
  clear BK337
  clear BK338
  clear HB
  have HO341 := n0_
  have BK337 := n1_
  have BK338 := n2_
  have HB := n3_
  clear n0_ n1_ n2_ n3_
  clear hb ho14
  obtain ⟨Ao15,co15,eo15⟩ := Kd.R_slice HO341.out
  (first | subst eo15 | (injection eo15 with f1_ f2_ f3_; have f4_ := f1_.symm; have f5_ := f3_.symm; clear f1_ f2_ f3_; subst f4_; subst f5_))
  refine hK.out _ _ ⟨(blk_cell BK337.out 0).trans rfl,(blk_cell BK337.out 1).trans rfl⟩ (fun hHeld => ?_)
  clear hK K
  refine norm_ (a':=?_) ?_ ?_
  rotate_left
  ·show Act.put _ (some 15) _ = _
   simp only [Act.put,setIfInBounds_toArray,set_cons_zero,set_cons_succ,i64_w,i32_w]
   rfl
  refine one_ (i:=3) (N:=some 16) (bm 14 495) rfl rfl (one_of HT_.out (by kernel_rfl)) (by decide) (fun K hK => ?_)
  refine goes_ Try.func29 (by kernel_rfl) rfl #[.slice Ao15 y339.length co15] (by rfl) rfl rfl mA ?_
  with_reducible refine (impl_isLong.calls _ _ y339 t342 _ ?side1 ?side2 A4.out).mono ?_
  (case side1 => repeat (first | exact (Kd.R_reads' HO341.out).2.2 | (with_reducible refine Kd.C_alloc ?_ _) | (with_reducible refine Kd.C_drewN ?_ _) | (with_reducible refine Kd.C_drew ?_)))
  (case side2 => exact (Kd.R_reads' HO341.out).2.1)
  rintro e w16 ⟨rfl,hb⟩
  refine ⟨_,rfl,?_⟩
  have n0_ := Aside0.mk (Kd.R_below (rA HO341.out) hb)
  have n1_ := Aside0.mk (blk_below (g:=gb337) (o:=.cells #[.slice A0_0 l0_0.length c0_0,.int .i64 a0_1] 28 (0,0)) (kA BK337.out) hb)
  have n2_ := Aside0.mk (blk_below (g:=gb338) (o:=.cells #[.slice none 0 0,.int .i64 0] 28 (0,0)) (kA BK338.out) hb)
  have n3_ := Aside0.mk (below_step bA hb)
  clear HO341
  clear BK337
  clear BK338
  clear HB
  have HO341 := n0_
  have BK337 := n1_
  have BK338 := n2_
  have HB := n3_
  clear n0_ n1_ n2_ n3_
  (try clear hb)
  (try clear hb2)
  (try clear hk)
  (try clear hi)
  refine hK.out _ _ ⟨(blk_cell BK337.out 0).trans rfl,(blk_cell BK337.out 1).trans rfl⟩ (fun hHeld => ?_)
  clear hK K
  refine norm_ (a':=?_) ?_ ?_
  rotate_left
  ·show Act.put _ (some 16) _ = _
   simp only [Act.put,setIfInBounds_toArray,set_cons_zero,set_cons_succ,i64_w,i32_w]
   rfl
  refine pV_ 4 17 (bm 14 511) HT_.out ?_
  refine one_ (i:=9) (N:=some 22) (bm 14 1023) rfl rfl (one_of HT_.out (by kernel_rfl)) (by decide) (fun K hK => ?_)
  refine goes_ Try.func30 (by kernel_rfl) rfl #[.agg #[.slice A0_0 l0_0.length c0_0,.int .i64 a0_1],.string a1] (by rfl) rfl rfl mA ?_
  with_reducible refine (impl_storeCode.calls k _ _ l0_0 a0_1 a1 t343 _ ?side1 ?side2 A5.out).mono ?_
  (case side1 => repeat (first | exact (Kd.C_below HR0_0.out HB.out) | (with_reducible refine Kd.C_alloc ?_ _) | (with_reducible refine Kd.C_drewN ?_ _) | (with_reducible refine Kd.C_drew ?_)))
  (case side2 => exact HC0_0.out)
  rintro e w17 ⟨rfl,hb⟩
  refine ⟨_,rfl,?_⟩
  have n0_ := Aside0.mk (Kd.R_below (rA HO341.out) hb)
  have n1_ := Aside0.mk (blk_below (g:=gb337) (o:=.cells #[.slice A0_0 l0_0.length c0_0,.int .i64 a0_1] 28 (0,0)) (kA BK337.out) hb)
  have n2_ := Aside0.mk (blk_below (g:=gb338) (o:=.cells #[.slice none 0 0,.int .i64 0] 28 (0,0)) (kA BK338.out) hb)
  have n3_ := Aside0.mk (below_step bA hb)
  clear HO341
  clear BK337
  clear BK338
  clear HB
  have HO341 := n0_
  have BK337 := n1_
  have BK338 := n2_
  have HB := n3_
  clear n0_ n1_ n2_ n3_
  (try clear hb)
  (try clear hb2)
  (try clear hk)
  (try clear hi)
  refine hK.out _ _ ⟨(blk_cell BK337.out 0).trans rfl,(blk_cell BK337.out 1).trans rfl⟩ (fun hHeld => ?_)
  clear hK K
  refine norm_ (a':=?_) ?_ ?_
  rotate_left
  ·show Act.put _ (some 22) _ = _
   simp only [Act.put,setIfInBounds_toArray,set_cons_zero,set_cons_succ,i64_w,i32_w]
   rfl
  refine pV_ 10 23 (bm 14 2047) HT_.out ?_
  refine one_ (i:=11) (N:=some 24) (bm 14 4095) rfl rfl (one_of HT_.out (by kernel_rfl)) (by decide) (fun K hK => ?_)
  refine Kd.R_lit_step kAny _ 20 ?hg (N:=24) ?hd (xs := ([anyB t342,anyI 2,anyB true,anyI t343] : List AnyV)) (inner := [.iface 4 (.bool t342),.iface 3 (.int .i64 2),.iface 4 (.bool true),.iface 3 (.int .i64 t343)]) (ok := fun _ => True) (okp := fun _ => True) ?hr ?hp (fun _ hk => hk) trivial (Below.refl _ _) (Nat.le_refl _) (by simp) ?_; (case hd => rfl); (case hg => rfl); (case hr => first | (go_simp; done) | (go_simp; rfl)); (case hp => exact (Reps.one (show Kd.M kAny _ _ _ (anyB t342) [.iface 4 (.bool t342)] from rfl) (Reps.one (show Kd.M kAny _ _ _ (anyI 2) [.iface 3 (.int .i64 2)] from rfl) (Reps.one (show Kd.M kAny _ _ _ (anyB true) [.iface 4 (.bool true)] from rfl) (Reps.one (show Kd.M kAny _ _ _ (anyI t343) [.iface 3 (.int .i64 t343)] from rfl) (Reps.none _ _))))))
  intro v345 w18 ho19 hb hg_ hnew_
  clear hg_ hnew_
  (first | rw [← Ny344.out] at ho19 | (simp only [Int.reduceToNat] at ho19; rw [← Ny344.out] at ho19))
  have n0_ := Aside0.mk (Kd.R_below (rA HO341.out) hb)
  have n1_ := Aside0.mk (Kd.R_lower ho19 (below_size bA))
  have n2_ := Aside0.mk (blk_below (g:=gb337) (o:=.cells #[.slice A0_0 l0_0.length c0_0,.int .i64 a0_1] 28 (0,0)) (kA BK337.out) hb)
  have n3_ := Aside0.mk (blk_below (g:=gb338) (o:=.cells #[.slice none 0 0,.int .i64 0] 28 (0,0)) (kA BK338.out) hb)
  have n4_ := Aside0.mk (below_step bA hb)
  clear HO341
  clear BK337
  clear BK338
  clear HB
  have HO341 := n0_
  have HO346 := n1_
  have BK337 := n2_
  have BK338 := n3_
  have HB := n4_
  clear n0_ n1_ n2_ n3_ n4_
  clear hb ho19
  obtain ⟨Ao20,co20,eo20⟩ := Kd.R_slice HO346.out
  (first | subst eo20 | (injection eo20 with f1_ f2_ f3_; have f4_ := f1_.symm; have f5_ := f3_.symm; clear f1_ f2_ f3_; subst f4_; subst f5_))
  refine hK.out _ _ ⟨(blk_cell BK337.out 0).trans rfl,(blk_cell BK337.out 1).trans rfl⟩ (fun hHeld => ?_)
  clear hK K
  refine norm_ (a':=?_) ?_ ?_
  rotate_left
  ·show Act.put _ (some 24) _ = _
   simp only [Act.put,setIfInBounds_toArray,set_cons_zero,set_cons_succ,i64_w,i32_w]
   rfl
  refine one_ (i:=12) (N:=some 25) (bm 14 8191) rfl rfl (one_of HT_.out (by kernel_rfl)) (by decide) (fun K hK => ?_)
  refine goes_ Try.func28 (by kernel_rfl) rfl #[.slice Ao20 y344.length co20] (by rfl) rfl rfl mA ?_
  with_reducible refine (impl_first.calls k _ _ y344 t347 _ ?side1 ?side2 A6.out).mono ?_
  (case side1 => repeat (first | exact (Kd.R_reads' HO346.out).2.2 | (with_reducible refine Kd.C_alloc ?_ _) | (with_reducible refine Kd.C_drewN ?_ _) | (with_reducible refine Kd.C_drew ?_)))
  (case side2 => exact (Kd.R_reads' HO346.out).2.1)
  rintro e w' ⟨rfl,⟨nd,rfl⟩⟩
  refine ⟨_,rfl,?_⟩
  refine hK.out _ _ ⟨(blk_cell BK337.out 0).trans rfl,(blk_cell BK337.out 1).trans rfl⟩ (fun hHeld => ?_)
  clear hK K
  refine norm_ (a':=?_) ?_ ?_
  rotate_left
  ·show Act.put _ (some 25) _ = _
   simp only [Act.put,setIfInBounds_toArray,set_cons_zero,set_cons_succ,i64_w,i32_w]
   rfl
  refine pV_ 13 9 (bm 14 16383) HT_.out ?_
  refine done_ (done_of HT_.out (by kernel_rfl)) ?_
  have hnb21 := NB337_338.out
  have hnc21 := NB338_337.out
  have hcz22_0 : w18.cell? ⟨gb337,0,none⟩ = some (.slice A0_0 l0_0.length c0_0) := (blk_cell BK337.out 0).trans rfl
  have hcz22_1 : w18.cell? ⟨gb337,1,none⟩ = some (.int .i64 a0_1) := (blk_cell BK337.out 1).trans rfl
  have hfz22_0 := blk_frozen BK337.out 0
  have hfz22_1 := blk_frozen BK337.out 1
  try go_wp2_with (first | ((with_reducible refine gate_callee (f:=48) rfl ?_); refine goesL_ (some 34) rfl rfl Try.func48 (by kernel_rfl) rfl #[.agg #[.slice A0_0 l0_0.length c0_0,.int .i64 a0_1],.string a1,.string a2] rfl mA ?_; (with_reducible refine (impl_Store_putAbsent.calls k (fun k_ => k_ < w.heap.size) _ _ l0_0 a0_1 a1 a2 t348 t351 t352 t353 _ ?side1 A8.out).mono ?_); (case side1 => exact Kd.V_mk HC0_0.out (Kd.F_below (Kd.C_F k71_heap HR0_0.out) bA)); rintro e w23 ⟨v349,rfl,ho0,hb⟩; refine ⟨_,rfl,?_⟩; have n0_ := Aside0.mk (Kd.R_below (rA HO341.out) hb); have n1_ := Aside0.mk (Kd.R_below (rA HO346.out) hb); have n2_ := Aside0.mk (Kd.V_lower (Kd.V_mono (ok' := fun k_ => some k_ ≠ (.slice Ao15 y339.length co15 : Value).ownBlock ∧ some k_ ≠ (.slice Ao20 y344.length co20 : Value).ownBlock ∧ k_ ≠ gb337 ∧ k_ ≠ gb338) ho0 (fun k_ hk_ => ⟨Or.elim hk_ (fun hs_ => fun e_ => Nat.not_le.2 hs_ (Kd.R_base HO341.out k_ e_.symm)) (fun hn_ => (Kd.fresh' (Kd.R_lt (rA HO341.out)) k_ hn_)),Or.elim hk_ (fun hs_ => fun e_ => Nat.not_le.2 hs_ (Kd.R_base HO346.out k_ e_.symm)) (fun hn_ => (Kd.fresh' (Kd.R_lt (rA HO346.out)) k_ hn_)),Or.elim hk_ (fun hs_ => fun e_ => Nat.not_le.2 hs_ (by rw [e_]; exact GW337.out)) (fun hn_ => (Kd.freshB (g:=gb337) (o:=.cells #[.slice A0_0 l0_0.length c0_0,.int .i64 a0_1] 28 (0,0)) (kA BK337.out) k_ hn_)),Or.elim hk_ (fun hs_ => fun e_ => Nat.not_le.2 hs_ (by rw [e_]; exact GW338.out)) (fun hn_ => (Kd.freshB (g:=gb338) (o:=.cells #[.slice none 0 0,.int .i64 0] 28 (0,0)) (kA BK338.out) k_ hn_))⟩)) (below_size bA)); have n3_ := Aside0.mk (blk_below (g:=gb337) (o:=.cells #[.slice A0_0 l0_0.length c0_0,.int .i64 a0_1] 28 (0,0)) (kA BK337.out) hb); have n4_ := Aside0.mk (blk_below (g:=gb338) (o:=.cells #[.slice none 0 0,.int .i64 0] 28 (0,0)) (kA BK338.out) hb); have n5_ := Aside0.mk (below_step bA hb); clear HO341; clear HO346; clear BK337; clear BK338; clear HB; have HO341 := n0_; have HO346 := n1_; have HO350 := n2_; have BK337 := n3_; have BK338 := n4_; have HB := n5_; clear n0_ n1_ n2_ n3_ n4_ n5_; (try clear hb); (try clear hb2); (try clear hk); (try clear hi); (try clear ho0)) | ((with_reducible refine gate_dst (N:=10) rfl ?_); refine box_event ?hg (N:=10) ?hd (cs := #[.slice none 0 0,.int .i64 0]) (t:=28) ?hr ?_; (case hd => rfl); (case hg => rfl); (case hr => first | (go_simp; done) | (go_simp; rfl)); intro gb354 hg w24 hbox hb; have n0_ := Aside0.mk (Kd.R_below (rA HO341.out) hb); have n1_ := Aside0.mk (Kd.R_below (rA HO346.out) hb); have n2_ := Aside0.mk (Kd.V_below (Kd.V_elderB (by (with_reducible repeat (first | apply Kd.V_alloc | apply Kd.V_drewN | apply Kd.V_drew)); exact HO350.out) gb354 (Nat.le_of_eq hg.symm)) hb); have n3_ := Aside0.mk (blk_below (g:=gb337) (o:=.cells #[.slice A0_0 l0_0.length c0_0,.int .i64 a0_1] 28 (0,0)) (kA BK337.out) hb); have n4_ := Aside0.mk (blk_below (g:=gb338) (o:=.cells #[.slice none 0 0,.int .i64 0] 28 (0,0)) (kA BK338.out) hb); have n5_ := Aside0.mk (below_step bA hb); have n6_ := Aside0.mk (hbox); have n7_ := Aside0.mk ((by rw [hg]; exact (below_size bA) : w.heap.size ≤ gb354)); have n8_ := Aside0.mk ((by rw [hg]; exact (below_size bA) : w.heap.size ≤ gb354)); have n9_ := Aside0.mk ((by rw [hg]; exact Nat.ne_of_lt (blk_lt (g:=gb337) (o:=.cells #[.slice A0_0 l0_0.length c0_0,.int .i64 a0_1] 28 (0,0)) (kA BK337.out)) : gb337 ≠ gb354)); have n10_ := Aside0.mk ((by rw [hg]; exact Nat.ne_of_gt (blk_lt (g:=gb337) (o:=.cells #[.slice A0_0 l0_0.length c0_0,.int .i64 a0_1] 28 (0,0)) (kA BK337.out)) : gb354 ≠ gb337)); have n11_ := Aside0.mk ((by rw [hg]; exact Nat.ne_of_lt (blk_lt (g:=gb338) (o:=.cells #[.slice none 0 0,.int .i64 0] 28 (0,0)) (kA BK338.out)) : gb338 ≠ gb354)); have n12_ := Aside0.mk ((by rw [hg]; exact Nat.ne_of_gt (blk_lt (g:=gb338) (o:=.cells #[.slice none 0 0,.int .i64 0] 28 (0,0)) (kA BK338.out)) : gb354 ≠ gb338)); clear HO341; clear HO346; clear HO350; clear BK337; clear BK338; clear HB; have HO341 := n0_; have HO346 := n1_; have HO350 := n2_; have BK337 := n3_; have BK338 := n4_; have HB := n5_; have BK354 := n6_; have GW354 := n7_; have GE354 := n8_; have NB337_354 := n9_; have NB354_337 := n10_; have NB338_354 := n11_; have NB354_338 := n12_; clear n0_ n1_ n2_ n3_ n4_ n5_ n6_ n7_ n8_ n9_ n10_ n11_ n12_; clear hb hbox hg; obtain ⟨Ao25,co25,eo25⟩ := Kd.V_slice HO350.out; subst eo25; have hnb26 := NB354_337.out; have hnc26 := NB337_354.out; have hnb27 := NB354_338.out; have hnc27 := NB338_354.out; have hcz28_0 : w24.cell? ⟨gb354,0,none⟩ = some (.slice none 0 0) := (blk_cell BK354.out 0).trans rfl; have hcz28_1 : w24.cell? ⟨gb354,1,none⟩ = some (.int .i64 0) := (blk_cell BK354.out 1).trans rfl; have hfz28_0 := blk_frozen BK354.out 0; have hfz28_1 := blk_frozen BK354.out 1) | ((with_reducible refine gate_callee (f:=32) rfl ?_); refine goesL_ (some 39) rfl rfl Try.func32 (by kernel_rfl) rfl #[.agg #[.slice Ao25 t348.length co25,.int .i64 t351]] rfl mA ?_; (with_reducible refine (impl_Store_copied.calls _ _ t348 t351 t355 t358 _ ?side1 ?side2 A9.out).mono ?_); (case side1 => refine (Kd.V_reads' (e:=71) (base := w.heap.size) (ok := fun k_ => ((some k_ ≠ (.slice Ao15 y339.length co15 : Value).ownBlock ∧ (some k_ ≠ (.slice Ao20 y344.length co20 : Value).ownBlock ∧ (k_ ≠ gb337 ∧ k_ ≠ gb338))) ∧ k_ ≠ gb354)) (n:=t348.length) (c:=co25) ?_).2.2; exact (by (with_reducible repeat (first | apply Kd.V_alloc | apply Kd.V_drewN | apply Kd.V_drew)); exact (Kd.V_mono (Kd.V_far (p:=⟨gb354,1,none⟩) (Kd.V_far (p:=⟨gb354,0,none⟩) (Kd.V_mono HO350.out (fun k_ hk => (⟨hk,hk.2⟩ : _ ∧ k_ ≠ gb354))) (fun _ hk => hk.2) (.slice Ao25 t348.length co25)) (fun _ hk => hk.2) (.int .i64 t351)) (fun _ h_ => h_.1)))); (case side2 => exact (Kd.V_reads' HO350.out).2.1); rintro e w29 ⟨v356,rfl,ho0,hb⟩; refine ⟨_,rfl,?_⟩; have n0_ := Aside0.mk (Kd.R_below (by (with_reducible repeat (first | apply Kd.R_alloc | apply Kd.R_drewN | apply Kd.R_drew)); exact (Kd.R_mono (Kd.R_far (p:=⟨gb354,1,none⟩) (Kd.R_far (p:=⟨gb354,0,none⟩) (Kd.R_types HO341.out BK354.out (by decide)) (fun _ hk => hk.2) (.slice Ao25 t348.length co25)) (fun _ hk => hk.2) (.int .i64 t351)) (fun _ h_ => h_.1))) hb); have n1_ := Aside0.mk (Kd.R_below (by (with_reducible repeat (first | apply Kd.R_alloc | apply Kd.R_drewN | apply Kd.R_drew)); exact (Kd.R_mono (Kd.R_far (p:=⟨gb354,1,none⟩) (Kd.R_far (p:=⟨gb354,0,none⟩) (Kd.R_types HO346.out BK354.out (by decide)) (fun _ hk => hk.2) (.slice Ao25 t348.length co25)) (fun _ hk => hk.2) (.int .i64 t351)) (fun _ h_ => h_.1))) hb); have n2_ := Aside0.mk (Kd.V_elder' (by (with_reducible repeat (first | apply Kd.V_alloc | apply Kd.V_drewN | apply Kd.V_drew)); exact (Kd.V_mono (Kd.V_far (p:=⟨gb354,1,none⟩) (Kd.V_far (p:=⟨gb354,0,none⟩) (Kd.V_mono HO350.out (fun k_ hk => (⟨hk,hk.2⟩ : _ ∧ k_ ≠ gb354))) (fun _ hk => hk.2) (.slice Ao25 t348.length co25)) (fun _ hk => hk.2) (.int .i64 t351)) (fun _ h_ => h_.1))) (Kd.R_base ho0) hb); have n3_ := Aside0.mk (Kd.R_lower ho0 (below_size bA)); have n4_ := Aside0.mk (blk_below (g:=gb337) (o:=.cells #[.slice A0_0 l0_0.length c0_0,.int .i64 a0_1] 28 (0,0)) (kF BK337.out) hb); have n5_ := Aside0.mk (blk_below (g:=gb338) (o:=.cells #[.slice none 0 0,.int .i64 0] 28 (0,0)) (kF BK338.out) hb); have n6_ := Aside0.mk (blk_below (g:=gb354) (o:=.cells #[.slice Ao25 t348.length co25,.int .i64 t351] 28 (0,0)) (by (with_reducible repeat (first | refine blk_drewN ?_ _ | refine blk_drew ?_ | refine blk_alloc ?_ _)); refine blk_put (cs := #[.slice Ao25 t348.length co25,.int .i64 0]) ?_ 1 _ rfl; (with_reducible repeat (first | refine blk_drewN ?_ _ | refine blk_drew ?_ | refine blk_alloc ?_ _)); refine blk_put (cs := #[.slice none 0 0,.int .i64 0]) ?_ 0 _ rfl; (with_reducible repeat (first | refine blk_drewN ?_ _ | refine blk_drew ?_ | refine blk_alloc ?_ _)); exact BK354.out) hb); have n7_ := Aside0.mk (below_step bA hb); clear HO341; clear HO346; clear HO350; clear BK337; clear BK338; clear BK354; clear HB; have HO341 := n0_; have HO346 := n1_; have HO350 := n2_; have HO357 := n3_; have BK337 := n4_; have BK338 := n5_; have BK354 := n6_; have HB := n7_; clear n0_ n1_ n2_ n3_ n4_ n5_ n6_ n7_; (try clear hb); (try clear hb2); (try clear hk); (try clear hi); (try clear ho0); obtain ⟨Ao30,co30,eo30⟩ := Kd.R_slice HO357.out; subst eo30; have hcz31_0 : w29.cell? ⟨gb338,0,none⟩ = some (.slice none 0 0) := (blk_cell BK338.out 0).trans rfl; have hcz31_1 : w29.cell? ⟨gb338,1,none⟩ = some (.int .i64 0) := (blk_cell BK338.out 1).trans rfl; have hfz31_0 := blk_frozen BK338.out 0; have hfz31_1 := blk_frozen BK338.out 1))
  refine bodyPost_ret (results_ctt rfl _ _ gb338 28 #[.slice Ao30 t355.length co30,.int .i64 t358] (0,0) _ rfl (by (with_reducible repeat (first | refine blk_drewN ?_ _ | refine blk_drew ?_ | refine blk_alloc ?_ _)); refine blk_put (cs := #[.slice Ao30 t355.length co30,.int .i64 0]) ?_ 1 _ rfl; (with_reducible repeat (first | refine blk_drewN ?_ _ | refine blk_drew ?_ | refine blk_alloc ?_ _)); refine blk_put (cs := #[.slice none 0 0,.int .i64 0]) ?_ 0 _ rfl; (with_reducible repeat (first | refine blk_drewN ?_ _ | refine blk_drew ?_ | refine blk_alloc ?_ _)); exact BK338.out) Try.underlying28 rfl (by kernel_rfl)) rfl ?_
  exact ⟨_,by first | rfl | (simp [errW_none,errW_some] <;> rfl) | (simp [*,errW_none,errW_some] <;> rfl),by (with_reducible repeat (first | apply Kd.R_alloc | apply Kd.R_drewN | apply Kd.R_drew)); exact Kd.R_mono (Kd.R_far (p:=⟨gb338,1,none⟩) (Kd.R_far (p:=⟨gb338,0,none⟩) (Kd.R_types HO357.out BK338.out (by decide)) (fun _ hk => hk.2) (.slice Ao30 t355.length co30)) (fun _ hk => hk.2) (.int .i64 t358)) (fun _ hk => trivial),bA⟩
 ·rw [if_neg c7] at H
  have c7b0 : (t347 == 0) = false := beq_eq_false_iff_ne.mpr c7
  have c7b1 : (t347 != 0) = true := bne_iff_ne.mpr c7
  simp only [Option.some.injEq,Prod.mk.injEq] at H
  obtain ⟨rfl,rfl,rfl,rfl⟩ := H
  go_enter Try.func20,Try.ntmps20
  try go_wp2_with (first | ((with_reducible refine gate_dst (N:=3) rfl ?_); refine box_event ?hg (N:=3) ?hd (cs := #[.slice A0_0 l0_0.length c0_0,.int .i64 a0_1]) (t:=28) ?hr ?_; (case hd => rfl); (case hg => rfl); (case hr => first | (go_simp; done) | (go_simp; rfl)); intro gb337 hg w32 hbox hb; have n0_ := Aside0.mk (below_step bA hb); have n1_ := Aside0.mk (hbox); have n2_ := Aside0.mk ((by rw [hg]; exact (below_size bA) : w.heap.size ≤ gb337)); have n3_ := Aside0.mk ((by rw [hg]; exact (below_size bA) : w.heap.size ≤ gb337)); clear HB; have HB := n0_; have BK337 := n1_; have GW337 := n2_; have GE337 := n3_; clear n0_ n1_ n2_ n3_; clear hb hbox hg) | ((with_reducible refine gate_dst (N:=6) rfl ?_); refine box_event ?hg (N:=6) ?hd (cs := #[.slice none 0 0,.int .i64 0]) (t:=28) ?hr ?_; (case hd => rfl); (case hg => rfl); (case hr => first | (go_simp; done) | (go_simp; rfl)); intro gb338 hg w33 hbox hb; have n0_ := Aside0.mk (blk_below (g:=gb337) (o:=.cells #[.slice A0_0 l0_0.length c0_0,.int .i64 a0_1] 28 (0,0)) (kA BK337.out) hb); have n1_ := Aside0.mk (below_step bA hb); have n2_ := Aside0.mk (hbox); have n3_ := Aside0.mk ((by rw [hg]; exact (below_size bA) : w.heap.size ≤ gb338)); have n4_ := Aside0.mk ((by rw [hg]; exact (below_size bA) : w.heap.size ≤ gb338)); have n5_ := Aside0.mk ((by rw [hg]; exact Nat.ne_of_lt (blk_lt (g:=gb337) (o:=.cells #[.slice A0_0 l0_0.length c0_0,.int .i64 a0_1] 28 (0,0)) (kA BK337.out)) : gb337 ≠ gb338)); have n6_ := Aside0.mk ((by rw [hg]; exact Nat.ne_of_gt (blk_lt (g:=gb337) (o:=.cells #[.slice A0_0 l0_0.length c0_0,.int .i64 a0_1] 28 (0,0)) (kA BK337.out)) : gb338 ≠ gb337)); clear BK337; clear HB; have BK337 := n0_; have HB := n1_; have BK338 := n2_; have GW338 := n3_; have GE338 := n4_; have NB337_338 := n5_; have NB338_337 := n6_; clear n0_ n1_ n2_ n3_ n4_ n5_ n6_; clear hb hbox hg))
  have n0_ := Aside0.mk (blk_drew BK337.out)
  have n1_ := Aside0.mk (blk_drew BK338.out)
  have n2_ := Aside0.mk (below_drew1 HB.out)
  clear BK337
  clear BK338
  clear HB
  have BK337 := n0_
  have BK338 := n1_
  have HB := n2_
  clear n0_ n1_ n2_
  refine start_ (n:=14) (S:=fun w' => w'.cell? ⟨gb337,0,none⟩ = some (.slice A0_0 l0_0.length c0_0) ∧ w'.cell? ⟨gb337,1,none⟩ = some (.int .i64 a0_1)) (ds := []) (bm 14 0) (by kernel_rfl) rfl rfl ⟨(blk_cell BK337.out 0).trans rfl,(blk_cell BK337.out 1).trans rfl⟩ (fun hHeld => ?_); refine with_tabW impl_PutAbsent.tab1 impl_PutAbsent.bits1 (fun HT_ HW_ => ?_)
  generalize w33.drew = w34 at BK337 BK338 HB hHeld ⊢
  refine pV_ 0 13 (bm 14 1) HT_.out ?_
  refine pV_ 1 14 (bm 14 3) HT_.out ?_
  refine pV_ 5 18 (bm 14 35) HT_.out ?_
  refine pV_ 6 19 (bm 14 99) HT_.out ?_
  refine pV_ 8 21 (bm 14 355) HT_.out ?_
  refine take_ (i:=7) (N:=some 20) (v:=?_) (a':=?_) (bm 14 483) rfl rfl (take_ofW HT_.out HW_.out (by kernel_rfl)) (fun _ _ _ h => h) (Or.inl ⟨by rfl,?_⟩) hHeld ?_ ?_
  rotate_left
  ·rintro w' ⟨s0,s1⟩
   go_simp
   with_reducible rfl
  rotate_left
  ·simp only [Act.put,setIfInBounds_toArray,set_cons_zero,set_cons_succ,i64_w,i32_w]
   rfl
  refine one_ (i:=2) (N:=some 15) (bm 14 487) rfl rfl (one_of HT_.out (by kernel_rfl)) (by decide) (fun K hK => ?_)
  refine Kd.R_lit_step Kd.string _ 9 ?hg (N:=15) ?hd (xs := ([a1,a2] : List ByteArray)) (inner := [.string a1,.string a2]) (ok := fun _ => True) (okp := fun _ => True) ?hr ?hp (fun _ hk => hk) trivial (Below.refl _ _) (Nat.le_refl _) (by simp) ?_; (case hd => rfl); (case hg => rfl); (case hr => first | (go_simp; done) | (go_simp; rfl)); (case hp => exact (Reps.one (show Kd.M Kd.string _ _ _ a1 [.string a1] from rfl) (Reps.one (show Kd.M Kd.string _ _ _ a2 [.string a2] from rfl) (Reps.none _ _))))
  intro v340 w35 ho36 hb hg_ hnew_
  clear hg_ hnew_
  (first | rw [← Ny339.out] at ho36 | (simp only [Int.reduceToNat] at ho36; rw [← Ny339.out] at ho36))
  have n0_ := Aside0.mk (Kd.R_lower ho36 (below_size bA))
  have n1_ := Aside0.mk (blk_below (g:=gb337) (o:=.cells #[.slice A0_0 l0_0.length c0_0,.int .i64 a0_1] 28 (0,0)) (kA BK337.out) hb)
  have n2_ := Aside0.mk (blk_below (g:=gb338) (o:=.cells #[.slice none 0 0,.int .i64 0] 28 (0,0)) (kA BK338.out) hb)
  have n3_ := Aside0.mk (below_step bA hb)
  clear BK337
  clear BK338
  clear HB
  have HO341 := n0_
  have BK337 := n1_
  have BK338 := n2_
  have HB := n3_
  clear n0_ n1_ n2_ n3_
  clear hb ho36
  obtain ⟨Ao37,co37,eo37⟩ := Kd.R_slice HO341.out
  (first | subst eo37 | (injection eo37 with f1_ f2_ f3_; have f4_ := f1_.symm; have f5_ := f3_.symm; clear f1_ f2_ f3_; subst f4_; subst f5_))
  refine hK.out _ _ ⟨(blk_cell BK337.out 0).trans rfl,(blk_cell BK337.out 1).trans rfl⟩ (fun hHeld => ?_)
  clear hK K
  refine norm_ (a':=?_) ?_ ?_
  rotate_left
  ·show Act.put _ (some 15) _ = _
   simp only [Act.put,setIfInBounds_toArray,set_cons_zero,set_cons_succ,i64_w,i32_w]
   rfl
  refine one_ (i:=3) (N:=some 16) (bm 14 495) rfl rfl (one_of HT_.out (by kernel_rfl)) (by decide) (fun K hK => ?_)
  refine goes_ Try.func29 (by kernel_rfl) rfl #[.slice Ao37 y339.length co37] (by rfl) rfl rfl mA ?_
  with_reducible refine (impl_isLong.calls _ _ y339 t342 _ ?side1 ?side2 A4.out).mono ?_
  (case side1 => repeat (first | exact (Kd.R_reads' HO341.out).2.2 | (with_reducible refine Kd.C_alloc ?_ _) | (with_reducible refine Kd.C_drewN ?_ _) | (with_reducible refine Kd.C_drew ?_)))
  (case side2 => exact (Kd.R_reads' HO341.out).2.1)
  rintro e w38 ⟨rfl,hb⟩
  refine ⟨_,rfl,?_⟩
  have n0_ := Aside0.mk (Kd.R_below (rA HO341.out) hb)
  have n1_ := Aside0.mk (blk_below (g:=gb337) (o:=.cells #[.slice A0_0 l0_0.length c0_0,.int .i64 a0_1] 28 (0,0)) (kA BK337.out) hb)
  have n2_ := Aside0.mk (blk_below (g:=gb338) (o:=.cells #[.slice none 0 0,.int .i64 0] 28 (0,0)) (kA BK338.out) hb)
  have n3_ := Aside0.mk (below_step bA hb)
  clear HO341
  clear BK337
  clear BK338
  clear HB
  have HO341 := n0_
  have BK337 := n1_
  have BK338 := n2_
  have HB := n3_
  clear n0_ n1_ n2_ n3_
  (try clear hb)
  (try clear hb2)
  (try clear hk)
  (try clear hi)
  refine hK.out _ _ ⟨(blk_cell BK337.out 0).trans rfl,(blk_cell BK337.out 1).trans rfl⟩ (fun hHeld => ?_)
  clear hK K
  refine norm_ (a':=?_) ?_ ?_
  rotate_left
  ·show Act.put _ (some 16) _ = _
   simp only [Act.put,setIfInBounds_toArray,set_cons_zero,set_cons_succ,i64_w,i32_w]
   rfl
  refine pV_ 4 17 (bm 14 511) HT_.out ?_
  refine one_ (i:=9) (N:=some 22) (bm 14 1023) rfl rfl (one_of HT_.out (by kernel_rfl)) (by decide) (fun K hK => ?_)
  refine goes_ Try.func30 (by kernel_rfl) rfl #[.agg #[.slice A0_0 l0_0.length c0_0,.int .i64 a0_1],.string a1] (by rfl) rfl rfl mA ?_
  with_reducible refine (impl_storeCode.calls k _ _ l0_0 a0_1 a1 t343 _ ?side1 ?side2 A5.out).mono ?_
  (case side1 => repeat (first | exact (Kd.C_below HR0_0.out HB.out) | (with_reducible refine Kd.C_alloc ?_ _) | (with_reducible refine Kd.C_drewN ?_ _) | (with_reducible refine Kd.C_drew ?_)))
  (case side2 => exact HC0_0.out)
  rintro e w39 ⟨rfl,hb⟩
  refine ⟨_,rfl,?_⟩
  have n0_ := Aside0.mk (Kd.R_below (rA HO341.out) hb)
  have n1_ := Aside0.mk (blk_below (g:=gb337) (o:=.cells #[.slice A0_0 l0_0.length c0_0,.int .i64 a0_1] 28 (0,0)) (kA BK337.out) hb)
  have n2_ := Aside0.mk (blk_below (g:=gb338) (o:=.cells #[.slice none 0 0,.int .i64 0] 28 (0,0)) (kA BK338.out) hb)
  have n3_ := Aside0.mk (below_step bA hb)
  clear HO341
  clear BK337
  clear BK338
  clear HB
  have HO341 := n0_
  have BK337 := n1_
  have BK338 := n2_
  have HB := n3_
  clear n0_ n1_ n2_ n3_
  (try clear hb)
  (try clear hb2)
  (try clear hk)
  (try clear hi)
  refine hK.out _ _ ⟨(blk_cell BK337.out 0).trans rfl,(blk_cell BK337.out 1).trans rfl⟩ (fun hHeld => ?_)
  clear hK K
  refine norm_ (a':=?_) ?_ ?_
  rotate_left
  ·show Act.put _ (some 22) _ = _
   simp only [Act.put,setIfInBounds_toArray,set_cons_zero,set_cons_succ,i64_w,i32_w]
   rfl
  refine pV_ 10 23 (bm 14 2047) HT_.out ?_
  refine one_ (i:=11) (N:=some 24) (bm 14 4095) rfl rfl (one_of HT_.out (by kernel_rfl)) (by decide) (fun K hK => ?_)
  refine Kd.R_lit_step kAny _ 20 ?hg (N:=24) ?hd (xs := ([anyB t342,anyI 2,anyB true,anyI t343] : List AnyV)) (inner := [.iface 4 (.bool t342),.iface 3 (.int .i64 2),.iface 4 (.bool true),.iface 3 (.int .i64 t343)]) (ok := fun _ => True) (okp := fun _ => True) ?hr ?hp (fun _ hk => hk) trivial (Below.refl _ _) (Nat.le_refl _) (by simp) ?_; (case hd => rfl); (case hg => rfl); (case hr => first | (go_simp; done) | (go_simp; rfl)); (case hp => exact (Reps.one (show Kd.M kAny _ _ _ (anyB t342) [.iface 4 (.bool t342)] from rfl) (Reps.one (show Kd.M kAny _ _ _ (anyI 2) [.iface 3 (.int .i64 2)] from rfl) (Reps.one (show Kd.M kAny _ _ _ (anyB true) [.iface 4 (.bool true)] from rfl) (Reps.one (show Kd.M kAny _ _ _ (anyI t343) [.iface 3 (.int .i64 t343)] from rfl) (Reps.none _ _))))))
  intro v345 w40 ho41 hb hg_ hnew_
  clear hg_ hnew_
  (first | rw [← Ny344.out] at ho41 | (simp only [Int.reduceToNat] at ho41; rw [← Ny344.out] at ho41))
  have n0_ := Aside0.mk (Kd.R_below (rA HO341.out) hb)
  have n1_ := Aside0.mk (Kd.R_lower ho41 (below_size bA))
  have n2_ := Aside0.mk (blk_below (g:=gb337) (o:=.cells #[.slice A0_0 l0_0.length c0_0,.int .i64 a0_1] 28 (0,0)) (kA BK337.out) hb)
  have n3_ := Aside0.mk (blk_below (g:=gb338) (o:=.cells #[.slice none 0 0,.int .i64 0] 28 (0,0)) (kA BK338.out) hb)
  have n4_ := Aside0.mk (below_step bA hb)
  clear HO341
  clear BK337
  clear BK338
  clear HB
  have HO341 := n0_
  have HO346 := n1_
  have BK337 := n2_
  have BK338 := n3_
  have HB := n4_
  clear n0_ n1_ n2_ n3_ n4_
  clear hb ho41
  obtain ⟨Ao42,co42,eo42⟩ := Kd.R_slice HO346.out
  (first | subst eo42 | (injection eo42 with f1_ f2_ f3_; have f4_ := f1_.symm; have f5_ := f3_.symm; clear f1_ f2_ f3_; subst f4_; subst f5_))
  refine hK.out _ _ ⟨(blk_cell BK337.out 0).trans rfl,(blk_cell BK337.out 1).trans rfl⟩ (fun hHeld => ?_)
  clear hK K
  refine norm_ (a':=?_) ?_ ?_
  rotate_left
  ·show Act.put _ (some 24) _ = _
   simp only [Act.put,setIfInBounds_toArray,set_cons_zero,set_cons_succ,i64_w,i32_w]
   rfl
  refine one_ (i:=12) (N:=some 25) (bm 14 8191) rfl rfl (one_of HT_.out (by kernel_rfl)) (by decide) (fun K hK => ?_)
  refine goes_ Try.func28 (by kernel_rfl) rfl #[.slice Ao42 y344.length co42] (by rfl) rfl rfl mA ?_
  with_reducible refine (impl_first.calls k _ _ y344 t347 _ ?side1 ?side2 A6.out).mono ?_
  (case side1 => repeat (first | exact (Kd.R_reads' HO346.out).2.2 | (with_reducible refine Kd.C_alloc ?_ _) | (with_reducible refine Kd.C_drewN ?_ _) | (with_reducible refine Kd.C_drew ?_)))
  (case side2 => exact (Kd.R_reads' HO346.out).2.1)
  rintro e w' ⟨rfl,⟨nd,rfl⟩⟩
  refine ⟨_,rfl,?_⟩
  refine hK.out _ _ ⟨(blk_cell BK337.out 0).trans rfl,(blk_cell BK337.out 1).trans rfl⟩ (fun hHeld => ?_)
  clear hK K
  refine norm_ (a':=?_) ?_ ?_
  rotate_left
  ·show Act.put _ (some 25) _ = _
   simp only [Act.put,setIfInBounds_toArray,set_cons_zero,set_cons_succ,i64_w,i32_w]
   rfl
  refine pV_ 13 9 (bm 14 16383) HT_.out ?_
  refine done_ (done_of HT_.out (by kernel_rfl)) ?_
  have hnb43 := NB338_337.out
  have hnc43 := NB337_338.out
  have hcz44_0 : w40.cell? ⟨gb338,0,none⟩ = some (.slice none 0 0) := (blk_cell BK338.out 0).trans rfl
  have hcz44_1 : w40.cell? ⟨gb338,1,none⟩ = some (.int .i64 0) := (blk_cell BK338.out 1).trans rfl
  have hfz44_0 := blk_frozen BK338.out 0
  have hfz44_1 := blk_frozen BK338.out 1
  try go_wp2
  refine bodyPost_ret (results_ctt rfl _ _ gb338 28 #[.slice none 0 0,.int .i64 0] (0,0) _ rfl (by (with_reducible repeat (first | refine blk_drewN ?_ _ | refine blk_drew ?_ | refine blk_alloc ?_ _)); refine blk_put (cs := #[.slice none 0 0,.int .i64 0]) ?_ 1 _ rfl; (with_reducible repeat (first | refine blk_drewN ?_ _ | refine blk_drew ?_ | refine blk_alloc ?_ _)); refine blk_put (cs := #[.slice none 0 0,.int .i64 0]) ?_ 0 _ rfl; (with_reducible repeat (first | refine blk_drewN ?_ _ | refine blk_drew ?_ | refine blk_alloc ?_ _)); exact BK338.out) Try.underlying28 rfl (by kernel_rfl)) rfl ?_
  exact ⟨_,by first | rfl | (simp [errW_none,errW_some] <;> rfl) | (simp [*,errW_none,errW_some] <;> rfl),by first | exact Kd.R_nil _ _ _ _ _ | exact Kd.N_nil _ _ _ _ _ | exact Kd.V_nil _ _ _ _ _ | exact Kd.Q_nil _ _ _ _ _ | exact Kd.S_nil _ _ _ _ _,bA⟩

end Go.Proofs.Ytbodkbaniebfaaa.XFnExactPutAbsent
