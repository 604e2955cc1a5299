-- Printed by this session's own program wip/tools/xprint.py, which widens the kit's print. Not trusted: Lean checks it.
import Derived.Test.YtleifhnoaaphmaaDoorXFnExactAskReaderx0
import Derived.Test.YtleifhnoaaphmaaDoorXFnExactAskReaderx3
import Derived.Test.YtleifhnoaaphmaaDoorXFnExactAskReaderx5
import Derived.Test.YtleifhnoaaphmaaDoorXFnExactAskReaderx6
namespace Go.Proofs.YtleifhnoaaphmaaDoor.XFnExactAskReader
open List (setIfInBounds_toArray set_cons_zero set_cons_succ)
open Go.RowKit Go.Proofs.YtleifhnoaaphmaaDoorW.PrintWords Go.Proofs.YtleifhnoaaphmaaDoorW.PrintLast Go.Proofs.YtleifhnoaaphmaaDoorW.PrintMore
attribute [local go_sem] max2_int min2_int max_two min_two max_three min_three max_four min_four   -- for this text's walks alone
set_option linter.unusedVariables false
set_option linter.unusedSimpArgs false

/-! ### spec_l10Own: function 69 -/
def spec_l10Own.f (a0_0 : Int) (a0_1 : Int) (a0_2 : Int) (a0_3 : Int) (a0_4 : Int) (a0_5 : Int) (a0_6 : Int) (l0_7 : List (S84)) (a0_8 : Int) (a0_9 : Int) (a0_10 : Int) (a0_11 : Int) (a0_12 : Int) (a0_13 : Int) : Option (Int × Int × Int × Int × Int × Int × Int × (List (S84)) × Int × Int × Int × Int × Int × Int) := (some (([] : List (S84)) : List (S84))).bind fun y220 => (if y220.length + l0_7.length < 3518437208883 then (some (a0_0,a0_1,a0_2,a0_3,a0_4,a0_5,a0_6,(y220 ++ l0_7),a0_8,a0_9,a0_10,a0_11,a0_12,a0_13)) else (none))
set_option maxHeartbeats 8000000 in
set_option maxRecDepth 100000 in
theorem spec_l10Own.calls (a0_0 : Int) (a0_1 : Int) (a0_2 : Int) (a0_3 : Int) (a0_4 : Int) (a0_5 : Int) (a0_6 : Int) (A0_7 : Option Addr) (c0_7 : Nat) (l0_7 : List (S84)) (a0_8 : Int) (a0_9 : Int) (a0_10 : Int) (a0_11 : Int) (a0_12 : Int) (a0_13 : Int) (r1 : Int) (r2 : Int) (r3 : Int) (r4 : Int) (r5 : Int) (r6 : Int) (r7 : Int) (r8 : List (S84)) (r9 : Int) (r10 : Int) (r11 : Int) (r12 : Int) (r13 : Int) (r14 : Int) (w : World) (hr0_7 : Kd.C k84 w A0_7 l0_7.length l0_7) (hc0_7 : l0_7.length ≤ c0_7) (h : spec_l10Own.f a0_0 a0_1 a0_2 a0_3 a0_4 a0_5 a0_6 l0_7 a0_8 a0_9 a0_10 a0_11 a0_12 a0_13 = some (r1,r2,r3,r4,r5,r6,r7,r8,r9,r10,r11,r12,r13,r14)) :
  Calls Tryd.prog 69 #[.agg #[.int .i64 a0_0,.int .i64 a0_1,.int .i64 a0_2,.int .i64 a0_3,.int .i64 a0_4,.int .i64 a0_5,.int .i64 a0_6,.slice A0_7 l0_7.length c0_7,.int .i64 a0_8,.int .i64 a0_9,.int .i64 a0_10,.int .i64 a0_11,.int .i64 a0_12,.int .i64 a0_13]] w fun e w' => ∃ v7_ : Value,e = .returned (.agg #[.int .i64 r1,.int .i64 r2,.int .i64 r3,.int .i64 r4,.int .i64 r5,.int .i64 r6,.int .i64 r7,v7_,.int .i64 r9,.int .i64 r10,.int .i64 r11,.int .i64 r12,.int .i64 r13,.int .i64 r14]) ∧ Kd.R k84 84 w' w.heap.size (fun _ => True) v7_ r8 ∧ Below w.heap.size w w' := by
 have hu60 := Tryd.underlying60
 have HR0_7 := Aside0.mk hr0_7
 have HC0_7 := Aside0.mk hc0_7
 clear hr0_7 hc0_7
 have HB := Aside0.mk (Below.refl w.heap.size w)
 have H : ((some (([] : List (S84)) : List (S84))).bind fun y220 => (if y220.length + l0_7.length < 3518437208883 then (some (a0_0,a0_1,a0_2,a0_3,a0_4,a0_5,a0_6,(y220 ++ l0_7),a0_8,a0_9,a0_10,a0_11,a0_12,a0_13)) else (none))) = some (r1,r2,r3,r4,r5,r6,r7,r8,r9,r10,r11,r12,r13,r14) := h
 clear h
 obtain ⟨y220,hy220⟩ : ∃ y_ : List (S84),y_ = (([] : List (S84))) := ⟨_,rfl⟩
 replace H : (if y220.length + l0_7.length < 3518437208883 then (some (a0_0,a0_1,a0_2,a0_3,a0_4,a0_5,a0_6,(y220 ++ l0_7),a0_8,a0_9,a0_10,a0_11,a0_12,a0_13)) else (none)) = some (r1,r2,r3,r4,r5,r6,r7,r8,r9,r10,r11,r12,r13,r14) := by first | (rw [hy220]; with_reducible exact H) | (have H2_ := (Option.bind_some _ _).symm.trans H; rw [hy220]; with_reducible exact H2_) | (have H2_ := (Option.bind_some _ _).symm.trans H; with_reducible exact H2_) | with_reducible exact H | (rw [hy220]; exact H) | exact H
 have Ny220 := Aside0.mk hy220
 clear hy220
 by_cases c2 : y220.length + l0_7.length < 3518437208883
 ·rw [if_pos c2] at H
  have LMc2 := Aside0.mk c2
  clear c2
  obtain ⟨y223,hy223⟩ : ∃ y_ : List (S84),y_ = (y220 ++ l0_7) := ⟨_,rfl⟩
  replace H : (some (a0_0,a0_1,a0_2,a0_3,a0_4,a0_5,a0_6,y223,a0_8,a0_9,a0_10,a0_11,a0_12,a0_13)) = some (r1,r2,r3,r4,r5,r6,r7,r8,r9,r10,r11,r12,r13,r14) := by first | (rw [hy223]; with_reducible exact H) | (have H2_ := (Option.bind_some _ _).symm.trans H; rw [hy223]; with_reducible exact H2_) | (have H2_ := (Option.bind_some _ _).symm.trans H; with_reducible exact H2_) | with_reducible exact H | (rw [hy223]; exact H) | exact H
  have Ny223 := Aside0.mk hy223
  clear hy223
  simp only [Option.some.injEq,Prod.mk.injEq] at H
  obtain ⟨rfl,rfl,rfl,rfl,rfl,rfl,rfl,rfl,rfl,rfl,rfl,rfl,rfl,rfl⟩ := H
  go_enter Tryd.func69,Tryd.ntmps69
  go_wp2_with (first | ((with_reducible refine gate_dst (N:=1) rfl ?_); refine box_event ?hg (N:=1) ?hd (cs := #[.int .i64 a0_0,.int .i64 a0_1,.int .i64 a0_2,.int .i64 a0_3,.int .i64 a0_4,.int .i64 a0_5,.int .i64 a0_6,.slice A0_7 l0_7.length c0_7,.int .i64 a0_8,.int .i64 a0_9,.int .i64 a0_10,.int .i64 a0_11,.int .i64 a0_12,.int .i64 a0_13]) (t:=60) ?hr ?_; (case hd => rfl); (case hg => rfl); (case hr => first | (go_simp; done) | (go_simp; rfl)); intro gb218 hg w3 hbox hb; have n0_ := Aside0.mk (below_step bA hb); have n1_ := Aside0.mk (hbox); have n2_ := Aside0.mk ((by rw [hg]; exact (below_size bA) : w.heap.size ≤ gb218)); have n3_ := Aside0.mk ((by rw [hg]; exact (below_size bA) : w.heap.size ≤ gb218)); clear HB; have HB := n0_; have BK218 := n1_; have GW218 := n2_; have GE218 := n3_; clear n0_ n1_ n2_ n3_; clear hb hbox hg) | ((with_reducible refine gate_dst (N:=2) rfl ?_); refine box_event ?hg (N:=2) ?hd (cs := #[.int .i64 0,.int .i64 0,.int .i64 0,.int .i64 0,.int .i64 0,.int .i64 0,.int .i64 0,.slice none 0 0,.int .i64 0,.int .i64 0,.int .i64 0,.int .i64 0,.int .i64 0,.int .i64 0]) (t:=60) ?hr ?_; (case hd => rfl); (case hg => rfl); (case hr => first | (go_simp; done) | (go_simp; rfl)); intro gb219 hg w4 hbox hb; have n0_ := Aside0.mk (blk_below (g:=gb218) (o:=.cells #[.int .i64 a0_0,.int .i64 a0_1,.int .i64 a0_2,.int .i64 a0_3,.int .i64 a0_4,.int .i64 a0_5,.int .i64 a0_6,.slice A0_7 l0_7.length c0_7,.int .i64 a0_8,.int .i64 a0_9,.int .i64 a0_10,.int .i64 a0_11,.int .i64 a0_12,.int .i64 a0_13] 60 (0,0)) (kA BK218.out) hb); have n1_ := Aside0.mk (below_step bA hb); have n2_ := Aside0.mk (hbox); have n3_ := Aside0.mk ((by rw [hg]; exact (below_size bA) : w.heap.size ≤ gb219)); have n4_ := Aside0.mk ((by rw [hg]; exact (below_size bA) : w.heap.size ≤ gb219)); have n5_ := Aside0.mk ((by rw [hg]; exact Nat.ne_of_lt (blk_lt (g:=gb218) (o:=.cells #[.int .i64 a0_0,.int .i64 a0_1,.int .i64 a0_2,.int .i64 a0_3,.int .i64 a0_4,.int .i64 a0_5,.int .i64 a0_6,.slice A0_7 l0_7.length c0_7,.int .i64 a0_8,.int .i64 a0_9,.int .i64 a0_10,.int .i64 a0_11,.int .i64 a0_12,.int .i64 a0_13] 60 (0,0)) (kA BK218.out)) : gb218 ≠ gb219)); have n6_ := Aside0.mk ((by rw [hg]; exact Nat.ne_of_gt (blk_lt (g:=gb218) (o:=.cells #[.int .i64 a0_0,.int .i64 a0_1,.int .i64 a0_2,.int .i64 a0_3,.int .i64 a0_4,.int .i64 a0_5,.int .i64 a0_6,.slice A0_7 l0_7.length c0_7,.int .i64 a0_8,.int .i64 a0_9,.int .i64 a0_10,.int .i64 a0_11,.int .i64 a0_12,.int .i64 a0_13] 60 (0,0)) (kA BK218.out)) : gb219 ≠ gb218)); clear BK218; clear HB; have BK218 := n0_; have HB := n1_; have BK219 := n2_; have GW219 := n3_; have GE219 := n4_; have NB218_219 := n5_; have NB219_218 := n6_; clear n0_ n1_ n2_ n3_ n4_ n5_ n6_; clear hb hbox hg) | ((with_reducible refine gate_dst (N:=3) rfl ?_); refine Kd.R_lit k84 _ 84 ?hg (N:=3) ?hd (xs := ([] : List (S84))) (inner := []) (ok := fun _ => True) (okp := fun _ => True) ?hr ?hp (fun _ hk => hk) trivial (Below.refl _ _) (Nat.le_refl _) (by simp) ?_; (case hd => rfl); (case hg => rfl); (case hr => first | (go_simp; done) | (go_simp; rfl)); (case hp => exact (Reps.none _ _)); intro v221 w5 ho6 hb hg_ hnew_; clear hg_ hnew_; (first | rw [← Ny220.out] at ho6 | (simp only [Int.reduceToNat] at ho6; rw [← Ny220.out] at ho6)); have n0_ := Aside0.mk (Kd.R_lower ho6 (below_size bA)); have n1_ := Aside0.mk (blk_below (g:=gb218) (o:=.cells #[.int .i64 a0_0,.int .i64 a0_1,.int .i64 a0_2,.int .i64 a0_3,.int .i64 a0_4,.int .i64 a0_5,.int .i64 a0_6,.slice A0_7 l0_7.length c0_7,.int .i64 a0_8,.int .i64 a0_9,.int .i64 a0_10,.int .i64 a0_11,.int .i64 a0_12,.int .i64 a0_13] 60 (0,0)) (kA BK218.out) hb); have n2_ := Aside0.mk (blk_below (g:=gb219) (o:=.cells #[.int .i64 0,.int .i64 0,.int .i64 0,.int .i64 0,.int .i64 0,.int .i64 0,.int .i64 0,.slice none 0 0,.int .i64 0,.int .i64 0,.int .i64 0,.int .i64 0,.int .i64 0,.int .i64 0] 60 (0,0)) (kA BK219.out) hb); have n3_ := Aside0.mk (below_step bA hb); clear BK218; clear BK219; clear HB; have HO222 := n0_; have BK218 := n1_; have BK219 := n2_; have HB := n3_; clear n0_ n1_ n2_ n3_; clear hb ho6; have hnb7 := NB218_219.out; have hnc7 := NB219_218.out; have hcz8_0 : w5.cell? ⟨gb218,0,none⟩ = some (.int .i64 a0_0) := (blk_cell BK218.out 0).trans rfl; have hcz8_1 : w5.cell? ⟨gb218,1,none⟩ = some (.int .i64 a0_1) := (blk_cell BK218.out 1).trans rfl; have hcz8_2 : w5.cell? ⟨gb218,2,none⟩ = some (.int .i64 a0_2) := (blk_cell BK218.out 2).trans rfl; have hcz8_3 : w5.cell? ⟨gb218,3,none⟩ = some (.int .i64 a0_3) := (blk_cell BK218.out 3).trans rfl; have hcz8_4 : w5.cell? ⟨gb218,4,none⟩ = some (.int .i64 a0_4) := (blk_cell BK218.out 4).trans rfl; have hcz8_5 : w5.cell? ⟨gb218,5,none⟩ = some (.int .i64 a0_5) := (blk_cell BK218.out 5).trans rfl; have hcz8_6 : w5.cell? ⟨gb218,6,none⟩ = some (.int .i64 a0_6) := (blk_cell BK218.out 6).trans rfl; have hcz8_7 : w5.cell? ⟨gb218,7,none⟩ = some (.slice A0_7 l0_7.length c0_7) := (blk_cell BK218.out 7).trans rfl; have hcz8_8 : w5.cell? ⟨gb218,8,none⟩ = some (.int .i64 a0_8) := (blk_cell BK218.out 8).trans rfl; have hcz8_9 : w5.cell? ⟨gb218,9,none⟩ = some (.int .i64 a0_9) := (blk_cell BK218.out 9).trans rfl; have hcz8_10 : w5.cell? ⟨gb218,10,none⟩ = some (.int .i64 a0_10) := (blk_cell BK218.out 10).trans rfl; have hcz8_11 : w5.cell? ⟨gb218,11,none⟩ = some (.int .i64 a0_11) := (blk_cell BK218.out 11).trans rfl; have hcz8_12 : w5.cell? ⟨gb218,12,none⟩ = some (.int .i64 a0_12) := (blk_cell BK218.out 12).trans rfl; have hcz8_13 : w5.cell? ⟨gb218,13,none⟩ = some (.int .i64 a0_13) := (blk_cell BK218.out 13).trans rfl; have hfz8_0 := blk_frozen BK218.out 0; have hfz8_1 := blk_frozen BK218.out 1; have hfz8_2 := blk_frozen BK218.out 2; have hfz8_3 := blk_frozen BK218.out 3; have hfz8_4 := blk_frozen BK218.out 4; have hfz8_5 := blk_frozen BK218.out 5; have hfz8_6 := blk_frozen BK218.out 6; have hfz8_7 := blk_frozen BK218.out 7; have hfz8_8 := blk_frozen BK218.out 8; have hfz8_9 := blk_frozen BK218.out 9; have hfz8_10 := blk_frozen BK218.out 10; have hfz8_11 := blk_frozen BK218.out 11; have hfz8_12 := blk_frozen BK218.out 12; have hfz8_13 := blk_frozen BK218.out 13) | ((with_reducible refine gate_builtin (b:=.append) (xs := #[.tmp 3,.tmp 5]) rfl ?_); at_builtin; refine Kd.R_append_rows k84 (w0 := w) w.heap.size rfl (.tmp 3) (.tmp 5) 48 84 (.agg #[(.int .i64 0),(.int .i64 0),(.int .i64 0),(.string ⟨#[]⟩)]) 40 rfl Tryd.underlying48 info84 rfl (by decide) (by omega) v221 y220 l0_7 _ _ _ (fun _ => True) (fun _ => False) rfl rfl ?aO ?aR (fun _ _ h => h) (fun _ h => h.elim) ?aF ?aB ?aS ?aL ?_; (case aR => repeat (first | exact (Kd.C_below HR0_7.out HB.out) | (with_reducible refine Kd.C_alloc ?_ _) | (with_reducible refine Kd.C_drewN ?_ _) | (with_reducible refine Kd.C_drew ?_))); (case aB => exact bA); (case aF => exact (fun _ _ => trivial)); (case aO => exact (rA HO222.out)); (case aS => exact (below_size bA)); (case aL => have := LMc2.out; omega); intro v224 w9 ho hb hg hat; rw [← Ny223.out] at ho; have n0_ := Aside0.mk (blk_grown (g:=gb218) (o:=.cells #[.int .i64 a0_0,.int .i64 a0_1,.int .i64 a0_2,.int .i64 a0_3,.int .i64 a0_4,.int .i64 a0_5,.int .i64 a0_6,.slice A0_7 l0_7.length c0_7,.int .i64 a0_8,.int .i64 a0_9,.int .i64 a0_10,.int .i64 a0_11,.int .i64 a0_12,.int .i64 a0_13] 60 (0,0)) (kA BK218.out) hg (Kd.R_ne HO222.out BK218.out (by decide))); have n1_ := Aside0.mk (blk_grown (g:=gb219) (o:=.cells #[.int .i64 0,.int .i64 0,.int .i64 0,.int .i64 0,.int .i64 0,.int .i64 0,.int .i64 0,.slice none 0 0,.int .i64 0,.int .i64 0,.int .i64 0,.int .i64 0,.int .i64 0,.int .i64 0] 60 (0,0)) (kA BK219.out) hg (Kd.R_ne HO222.out BK219.out (by decide))); have n2_ := Aside0.mk (hb); have n3_ := Aside0.mk (ho); clear BK218; clear BK219; clear HB; clear HO222; have BK218 := n0_; have BK219 := n1_; have HB := n2_; have HO225 := n3_; clear n0_ n1_ n2_ n3_; clear ho hb hg hat; obtain ⟨Ao10,co10,eo10⟩ := Kd.R_slice HO225.out; subst eo10; have hcz11_0 : w9.cell? ⟨gb218,0,none⟩ = some (.int .i64 a0_0) := (blk_cell BK218.out 0).trans rfl; have hcz11_1 : w9.cell? ⟨gb218,1,none⟩ = some (.int .i64 a0_1) := (blk_cell BK218.out 1).trans rfl; have hcz11_2 : w9.cell? ⟨gb218,2,none⟩ = some (.int .i64 a0_2) := (blk_cell BK218.out 2).trans rfl; have hcz11_3 : w9.cell? ⟨gb218,3,none⟩ = some (.int .i64 a0_3) := (blk_cell BK218.out 3).trans rfl; have hcz11_4 : w9.cell? ⟨gb218,4,none⟩ = some (.int .i64 a0_4) := (blk_cell BK218.out 4).trans rfl; have hcz11_5 : w9.cell? ⟨gb218,5,none⟩ = some (.int .i64 a0_5) := (blk_cell BK218.out 5).trans rfl; have hcz11_6 : w9.cell? ⟨gb218,6,none⟩ = some (.int .i64 a0_6) := (blk_cell BK218.out 6).trans rfl; have hcz11_7 : w9.cell? ⟨gb218,7,none⟩ = some (.slice A0_7 l0_7.length c0_7) := (blk_cell BK218.out 7).trans rfl; have hcz11_8 : w9.cell? ⟨gb218,8,none⟩ = some (.int .i64 a0_8) := (blk_cell BK218.out 8).trans rfl; have hcz11_9 : w9.cell? ⟨gb218,9,none⟩ = some (.int .i64 a0_9) := (blk_cell BK218.out 9).trans rfl; have hcz11_10 : w9.cell? ⟨gb218,10,none⟩ = some (.int .i64 a0_10) := (blk_cell BK218.out 10).trans rfl; have hcz11_11 : w9.cell? ⟨gb218,11,none⟩ = some (.int .i64 a0_11) := (blk_cell BK218.out 11).trans rfl; have hcz11_12 : w9.cell? ⟨gb218,12,none⟩ = some (.int .i64 a0_12) := (blk_cell BK218.out 12).trans rfl; have hcz11_13 : w9.cell? ⟨gb218,13,none⟩ = some (.int .i64 a0_13) := (blk_cell BK218.out 13).trans rfl; have hfz11_0 := blk_frozen BK218.out 0; have hfz11_1 := blk_frozen BK218.out 1; have hfz11_2 := blk_frozen BK218.out 2; have hfz11_3 := blk_frozen BK218.out 3; have hfz11_4 := blk_frozen BK218.out 4; have hfz11_5 := blk_frozen BK218.out 5; have hfz11_6 := blk_frozen BK218.out 6; have hfz11_7 := blk_frozen BK218.out 7; have hfz11_8 := blk_frozen BK218.out 8; have hfz11_9 := blk_frozen BK218.out 9; have hfz11_10 := blk_frozen BK218.out 10; have hfz11_11 := blk_frozen BK218.out 11; have hfz11_12 := blk_frozen BK218.out 12; have hfz11_13 := blk_frozen BK218.out 13; have hcz12_0 : w9.cell? ⟨gb219,0,none⟩ = some (.int .i64 0) := (blk_cell BK219.out 0).trans rfl; have hcz12_1 : w9.cell? ⟨gb219,1,none⟩ = some (.int .i64 0) := (blk_cell BK219.out 1).trans rfl; have hcz12_2 : w9.cell? ⟨gb219,2,none⟩ = some (.int .i64 0) := (blk_cell BK219.out 2).trans rfl; have hcz12_3 : w9.cell? ⟨gb219,3,none⟩ = some (.int .i64 0) := (blk_cell BK219.out 3).trans rfl; have hcz12_4 : w9.cell? ⟨gb219,4,none⟩ = some (.int .i64 0) := (blk_cell BK219.out 4).trans rfl; have hcz12_5 : w9.cell? ⟨gb219,5,none⟩ = some (.int .i64 0) := (blk_cell BK219.out 5).trans rfl; have hcz12_6 : w9.cell? ⟨gb219,6,none⟩ = some (.int .i64 0) := (blk_cell BK219.out 6).trans rfl; have hcz12_7 : w9.cell? ⟨gb219,7,none⟩ = some (.slice none 0 0) := (blk_cell BK219.out 7).trans rfl; have hcz12_8 : w9.cell? ⟨gb219,8,none⟩ = some (.int .i64 0) := (blk_cell BK219.out 8).trans rfl; have hcz12_9 : w9.cell? ⟨gb219,9,none⟩ = some (.int .i64 0) := (blk_cell BK219.out 9).trans rfl; have hcz12_10 : w9.cell? ⟨gb219,10,none⟩ = some (.int .i64 0) := (blk_cell BK219.out 10).trans rfl; have hcz12_11 : w9.cell? ⟨gb219,11,none⟩ = some (.int .i64 0) := (blk_cell BK219.out 11).trans rfl; have hcz12_12 : w9.cell? ⟨gb219,12,none⟩ = some (.int .i64 0) := (blk_cell BK219.out 12).trans rfl; have hcz12_13 : w9.cell? ⟨gb219,13,none⟩ = some (.int .i64 0) := (blk_cell BK219.out 13).trans rfl; have hfz12_0 := blk_frozen BK219.out 0; have hfz12_1 := blk_frozen BK219.out 1; have hfz12_2 := blk_frozen BK219.out 2; have hfz12_3 := blk_frozen BK219.out 3; have hfz12_4 := blk_frozen BK219.out 4; have hfz12_5 := blk_frozen BK219.out 5; have hfz12_6 := blk_frozen BK219.out 6; have hfz12_7 := blk_frozen BK219.out 7; have hfz12_8 := blk_frozen BK219.out 8; have hfz12_9 := blk_frozen BK219.out 9; have hfz12_10 := blk_frozen BK219.out 10; have hfz12_11 := blk_frozen BK219.out 11; have hfz12_12 := blk_frozen BK219.out 12; have hfz12_13 := blk_frozen BK219.out 13))
  refine bodyPost_ret (results_cell_row rfl _ _ gb219 60 #[.int .i64 a0_0,.int .i64 a0_1,.int .i64 a0_2,.int .i64 a0_3,.int .i64 a0_4,.int .i64 a0_5,.int .i64 a0_6,.slice Ao10 y223.length co10,.int .i64 a0_8,.int .i64 a0_9,.int .i64 a0_10,.int .i64 a0_11,.int .i64 a0_12,.int .i64 a0_13] (0,0) _ rfl (by (with_reducible repeat (first | refine blk_drewN ?_ _ | refine blk_drew ?_ | refine blk_alloc ?_ _)); refine blk_put (cs := #[.int .i64 a0_0,.int .i64 a0_1,.int .i64 a0_2,.int .i64 a0_3,.int .i64 a0_4,.int .i64 a0_5,.int .i64 a0_6,.slice Ao10 y223.length co10,.int .i64 a0_8,.int .i64 a0_9,.int .i64 a0_10,.int .i64 a0_11,.int .i64 a0_12,.int .i64 0]) ?_ 13 _ rfl; (with_reducible repeat (first | refine blk_drewN ?_ _ | refine blk_drew ?_ | refine blk_alloc ?_ _)); refine blk_put (cs := #[.int .i64 a0_0,.int .i64 a0_1,.int .i64 a0_2,.int .i64 a0_3,.int .i64 a0_4,.int .i64 a0_5,.int .i64 a0_6,.slice Ao10 y223.length co10,.int .i64 a0_8,.int .i64 a0_9,.int .i64 a0_10,.int .i64 a0_11,.int .i64 0,.int .i64 0]) ?_ 12 _ rfl; (with_reducible repeat (first | refine blk_drewN ?_ _ | refine blk_drew ?_ | refine blk_alloc ?_ _)); refine blk_put (cs := #[.int .i64 a0_0,.int .i64 a0_1,.int .i64 a0_2,.int .i64 a0_3,.int .i64 a0_4,.int .i64 a0_5,.int .i64 a0_6,.slice Ao10 y223.length co10,.int .i64 a0_8,.int .i64 a0_9,.int .i64 a0_10,.int .i64 0,.int .i64 0,.int .i64 0]) ?_ 11 _ rfl; (with_reducible repeat (first | refine blk_drewN ?_ _ | refine blk_drew ?_ | refine blk_alloc ?_ _)); refine blk_put (cs := #[.int .i64 a0_0,.int .i64 a0_1,.int .i64 a0_2,.int .i64 a0_3,.int .i64 a0_4,.int .i64 a0_5,.int .i64 a0_6,.slice Ao10 y223.length co10,.int .i64 a0_8,.int .i64 a0_9,.int .i64 0,.int .i64 0,.int .i64 0,.int .i64 0]) ?_ 10 _ rfl; (with_reducible repeat (first | refine blk_drewN ?_ _ | refine blk_drew ?_ | refine blk_alloc ?_ _)); refine blk_put (cs := #[.int .i64 a0_0,.int .i64 a0_1,.int .i64 a0_2,.int .i64 a0_3,.int .i64 a0_4,.int .i64 a0_5,.int .i64 a0_6,.slice Ao10 y223.length co10,.int .i64 a0_8,.int .i64 0,.int .i64 0,.int .i64 0,.int .i64 0,.int .i64 0]) ?_ 9 _ rfl; (with_reducible repeat (first | refine blk_drewN ?_ _ | refine blk_drew ?_ | refine blk_alloc ?_ _)); refine blk_put (cs := #[.int .i64 a0_0,.int .i64 a0_1,.int .i64 a0_2,.int .i64 a0_3,.int .i64 a0_4,.int .i64 a0_5,.int .i64 a0_6,.slice Ao10 y223.length co10,.int .i64 0,.int .i64 0,.int .i64 0,.int .i64 0,.int .i64 0,.int .i64 0]) ?_ 8 _ rfl; (with_reducible repeat (first | refine blk_drewN ?_ _ | refine blk_drew ?_ | refine blk_alloc ?_ _)); refine blk_put (cs := #[.int .i64 a0_0,.int .i64 a0_1,.int .i64 a0_2,.int .i64 a0_3,.int .i64 a0_4,.int .i64 a0_5,.int .i64 a0_6,.slice none 0 0,.int .i64 0,.int .i64 0,.int .i64 0,.int .i64 0,.int .i64 0,.int .i64 0]) ?_ 7 _ rfl; (with_reducible repeat (first | refine blk_drewN ?_ _ | refine blk_drew ?_ | refine blk_alloc ?_ _)); refine blk_put (cs := #[.int .i64 a0_0,.int .i64 a0_1,.int .i64 a0_2,.int .i64 a0_3,.int .i64 a0_4,.int .i64 a0_5,.int .i64 0,.slice none 0 0,.int .i64 0,.int .i64 0,.int .i64 0,.int .i64 0,.int .i64 0,.int .i64 0]) ?_ 6 _ rfl; (with_reducible repeat (first | refine blk_drewN ?_ _ | refine blk_drew ?_ | refine blk_alloc ?_ _)); refine blk_put (cs := #[.int .i64 a0_0,.int .i64 a0_1,.int .i64 a0_2,.int .i64 a0_3,.int .i64 a0_4,.int .i64 0,.int .i64 0,.slice none 0 0,.int .i64 0,.int .i64 0,.int .i64 0,.int .i64 0,.int .i64 0,.int .i64 0]) ?_ 5 _ rfl; (with_reducible repeat (first | refine blk_drewN ?_ _ | refine blk_drew ?_ | refine blk_alloc ?_ _)); refine blk_put (cs := #[.int .i64 a0_0,.int .i64 a0_1,.int .i64 a0_2,.int .i64 a0_3,.int .i64 0,.int .i64 0,.int .i64 0,.slice none 0 0,.int .i64 0,.int .i64 0,.int .i64 0,.int .i64 0,.int .i64 0,.int .i64 0]) ?_ 4 _ rfl; (with_reducible repeat (first | refine blk_drewN ?_ _ | refine blk_drew ?_ | refine blk_alloc ?_ _)); refine blk_put (cs := #[.int .i64 a0_0,.int .i64 a0_1,.int .i64 a0_2,.int .i64 0,.int .i64 0,.int .i64 0,.int .i64 0,.slice none 0 0,.int .i64 0,.int .i64 0,.int .i64 0,.int .i64 0,.int .i64 0,.int .i64 0]) ?_ 3 _ rfl; (with_reducible repeat (first | refine blk_drewN ?_ _ | refine blk_drew ?_ | refine blk_alloc ?_ _)); refine blk_put (cs := #[.int .i64 a0_0,.int .i64 a0_1,.int .i64 0,.int .i64 0,.int .i64 0,.int .i64 0,.int .i64 0,.slice none 0 0,.int .i64 0,.int .i64 0,.int .i64 0,.int .i64 0,.int .i64 0,.int .i64 0]) ?_ 2 _ rfl; (with_reducible repeat (first | refine blk_drewN ?_ _ | refine blk_drew ?_ | refine blk_alloc ?_ _)); refine blk_put (cs := #[.int .i64 a0_0,.int .i64 0,.int .i64 0,.int .i64 0,.int .i64 0,.int .i64 0,.int .i64 0,.slice none 0 0,.int .i64 0,.int .i64 0,.int .i64 0,.int .i64 0,.int .i64 0,.int .i64 0]) ?_ 1 _ rfl; (with_reducible repeat (first | refine blk_drewN ?_ _ | refine blk_drew ?_ | refine blk_alloc ?_ _)); refine blk_put (cs := #[.int .i64 0,.int .i64 0,.int .i64 0,.int .i64 0,.int .i64 0,.int .i64 0,.int .i64 0,.slice none 0 0,.int .i64 0,.int .i64 0,.int .i64 0,.int .i64 0,.int .i64 0,.int .i64 0]) ?_ 0 _ rfl; (with_reducible repeat (first | refine blk_drewN ?_ _ | refine blk_drew ?_ | refine blk_alloc ?_ _)); refine blk_far ?_ NB219_218.out _; (with_reducible repeat (first | refine blk_drewN ?_ _ | refine blk_drew ?_ | refine blk_alloc ?_ _)); exact BK219.out) Tryd.underlying60 rfl (by kernel_rfl)) rfl ?_
  exact ⟨_,by first | rfl | (simp [errW_none,errW_some] <;> rfl) | (simp [*,errW_none,errW_some] <;> rfl),by (with_reducible repeat (first | apply Kd.R_alloc | apply Kd.R_drewN | apply Kd.R_drew)); exact Kd.R_mono (Kd.R_far (p:=⟨gb219,13,none⟩) (Kd.R_far (p:=⟨gb219,12,none⟩) (Kd.R_far (p:=⟨gb219,11,none⟩) (Kd.R_far (p:=⟨gb219,10,none⟩) (Kd.R_far (p:=⟨gb219,9,none⟩) (Kd.R_far (p:=⟨gb219,8,none⟩) (Kd.R_far (p:=⟨gb219,7,none⟩) (Kd.R_far (p:=⟨gb219,6,none⟩) (Kd.R_far (p:=⟨gb219,5,none⟩) (Kd.R_far (p:=⟨gb219,4,none⟩) (Kd.R_far (p:=⟨gb219,3,none⟩) (Kd.R_far (p:=⟨gb219,2,none⟩) (Kd.R_far (p:=⟨gb219,1,none⟩) (Kd.R_far (p:=⟨gb219,0,none⟩) (Kd.R_far (p:=⟨gb218,7,none⟩) (Kd.R_types (Kd.R_types HO225.out BK218.out (by decide)) BK219.out (by decide)) (fun _ hk => hk.1.2) (.slice Ao10 y223.length co10)) (fun _ hk => hk.2) (.int .i64 a0_0)) (fun _ hk => hk.2) (.int .i64 a0_1)) (fun _ hk => hk.2) (.int .i64 a0_2)) (fun _ hk => hk.2) (.int .i64 a0_3)) (fun _ hk => hk.2) (.int .i64 a0_4)) (fun _ hk => hk.2) (.int .i64 a0_5)) (fun _ hk => hk.2) (.int .i64 a0_6)) (fun _ hk => hk.2) (.slice Ao10 y223.length co10)) (fun _ hk => hk.2) (.int .i64 a0_8)) (fun _ hk => hk.2) (.int .i64 a0_9)) (fun _ hk => hk.2) (.int .i64 a0_10)) (fun _ hk => hk.2) (.int .i64 a0_11)) (fun _ hk => hk.2) (.int .i64 a0_12)) (fun _ hk => hk.2) (.int .i64 a0_13)) (fun _ hk => trivial),bA⟩
 ·rw [if_neg c2] at H
  exact absurd H (by simp)

/-! ### spec_AskReader: function 27 -/
def spec_AskReader.j0 : Nat → Int → Int → Int → Bool → Int → Int → Int → Int → Int → Int → Int → List (S84) → Int → Int → Int → Int → Int → Int → Option (Int × Int × Int × Int × Int × Int × Int × (List (S84)) × Int × Int × Int × Int × Int × Int × Int)
 | 0,_,_,_,_,_,_,_,_,_,_,_,_,_,_,_,_,_,_ => none
 | k + 1,x1,x2,x3,x22,x227000,x227001,x227002,x227003,x227004,x227005,x227006,x227007,x227008,x227009,x227010,x227011,x227012,x227013 => if x22 = true then (some (0,0,0,0,0,0,0,([] : List (S84)),0,0,0,0,0,0,4)) else (if x227001 = 0 then (some (x227000,1,x1,x2,x3,0,0,(([] : List (S84))),0,0,0,0,0,0,0)) else ((spec_l10Own.f x227000 x227001 x227002 x227003 x227004 x227005 x227006 x227007 x227008 x227009 x227010 x227011 x227012 x227013).bind fun bt234 => (some (bt234.1,bt234.2.1,bt234.2.2.1,bt234.2.2.2.1,bt234.2.2.2.2.1,bt234.2.2.2.2.2.1,bt234.2.2.2.2.2.2.1,bt234.2.2.2.2.2.2.2.1,bt234.2.2.2.2.2.2.2.2.1,bt234.2.2.2.2.2.2.2.2.2.1,bt234.2.2.2.2.2.2.2.2.2.2.1,bt234.2.2.2.2.2.2.2.2.2.2.2.1,bt234.2.2.2.2.2.2.2.2.2.2.2.2.1,bt234.2.2.2.2.2.2.2.2.2.2.2.2.2,9))))
def spec_AskReader.f (k : Nat) (a0_0 : Int) (a0_1 : Int) (a0_2 : Int) (a0_3 : Int) (a0_4 : Int) (a0_5 : Int) (a0_6 : Int) (l0_7 : List (S84)) (a0_8 : Int) (a0_9 : Int) (a0_10 : Int) (a0_11 : Int) (a0_12 : Int) (a0_13 : Int) (a1 : Int) (a2 : Int) (a3 : Int) : Option (Int × Int × Int × Int × Int × Int × Int × (List (S84)) × Int × Int × Int × Int × Int × Int × Int) := (spec_ReaderOK.f k a0_0 a0_1 a0_2 a0_3 a0_4 a0_5 a0_6 l0_7 a0_8 a0_9 a0_10 a0_11 a0_12 a0_13).bind fun t228 => (if t228 = true then ((spec_l04Tier.f a1).bind fun t229 => (if t229 = true then ((spec_l04Range.f a2 a3).bind fun t230 => (spec_AskReader.j0 k a1 a2 a3 (!t230) a0_0 a0_1 a0_2 a0_3 a0_4 a0_5 a0_6 l0_7 a0_8 a0_9 a0_10 a0_11 a0_12 a0_13)) else (spec_AskReader.j0 k a1 a2 a3 true a0_0 a0_1 a0_2 a0_3 a0_4 a0_5 a0_6 l0_7 a0_8 a0_9 a0_10 a0_11 a0_12 a0_13))) else (some (0,0,0,0,0,0,0,([] : List (S84)),0,0,0,0,0,0,1)))
theorem spec_AskReader.mono_l : ∀ k,(∀ y0 y1 y2 y3 y4 y5 y6 y7 y8 y9 y10 y11 y12 y13 y14 y15 y16 y17,LeO (spec_AskReader.j0 k y0 y1 y2 y3 y4 y5 y6 y7 y8 y9 y10 y11 y12 y13 y14 y15 y16 y17) (spec_AskReader.j0 (k + 1) y0 y1 y2 y3 y4 y5 y6 y7 y8 y9 y10 y11 y12 y13 y14 y15 y16 y17))
 | 0 => fun _ _ _ _ _ _ _ _ _ _ _ _ _ _ _ _ _ _ r h => by simp [spec_AskReader.j0] at h
 | k + 1 => by
  have ih0 := spec_AskReader.mono_l k
  ·intro y0 y1 y2 y3 y4 y5 y6 y7 y8 y9 y10 y11 y12 y13 y14 y15 y16 y17
   unfold spec_AskReader.j0
   repeat' first
   | (with_reducible exact ih0 _ _ _ _ _ _ _ _ _ _ _ _ _ _ _ _ _ _)
   | (with_reducible exact spec_ReaderOK.mono _ _ _ _ _ _ _ _ _ _ _ _ _ _ _)
   | (with_reducible exact LeO.refl _)
   | (with_reducible exact LeO.none _)
   | (with_reducible refine LeO.ite ?_ ?_)
   | (with_reducible refine LeO.bind ?_ (fun _ => ?_))
   | exact ih0 _ _ _ _ _ _ _ _ _ _ _ _ _ _ _ _ _ _
   | exact spec_ReaderOK.mono _ _ _ _ _ _ _ _ _ _ _ _ _ _ _
   | exact LeO.none _
   | refine LeO.ite ?_ ?_
   | refine LeO.bind ?_ (fun _ => ?_)
theorem spec_AskReader.mono : ∀ a0 a1 a2 a3 a4 a5 a6 a7 a8 a9 a10 a11 a12 a13 a14 a15 a16 k,LeO (spec_AskReader.f k a0 a1 a2 a3 a4 a5 a6 a7 a8 a9 a10 a11 a12 a13 a14 a15 a16) (spec_AskReader.f (k + 1) a0 a1 a2 a3 a4 a5 a6 a7 a8 a9 a10 a11 a12 a13 a14 a15 a16) := by
 intro a0 a1 a2 a3 a4 a5 a6 a7 a8 a9 a10 a11 a12 a13 a14 a15 a16 k
 have ih0 := spec_AskReader.mono_l k
 unfold spec_AskReader.f
 repeat' first
   | (with_reducible exact ih0 _ _ _ _ _ _ _ _ _ _ _ _ _ _ _ _ _ _)
   | (with_reducible exact spec_ReaderOK.mono _ _ _ _ _ _ _ _ _ _ _ _ _ _ _)
   | (with_reducible exact LeO.refl _)
   | (with_reducible exact LeO.none _)
   | (with_reducible refine LeO.ite ?_ ?_)
   | (with_reducible refine LeO.bind ?_ (fun _ => ?_))
   | exact ih0 _ _ _ _ _ _ _ _ _ _ _ _ _ _ _ _ _ _
   | exact spec_ReaderOK.mono _ _ _ _ _ _ _ _ _ _ _ _ _ _ _
   | exact LeO.none _
   | refine LeO.ite ?_ ?_
   | refine LeO.bind ?_ (fun _ => ?_)
set_option maxHeartbeats 8000000 in
set_option maxRecDepth 100000 in
theorem spec_AskReader.calls (k : Nat) (a0_0 : Int) (a0_1 : Int) (a0_2 : Int) (a0_3 : Int) (a0_4 : Int) (a0_5 : Int) (a0_6 : Int) (A0_7 : Option Addr) (c0_7 : Nat) (l0_7 : List (S84)) (a0_8 : Int) (a0_9 : Int) (a0_10 : Int) (a0_11 : Int) (a0_12 : Int) (a0_13 : Int) (a1 : Int) (a2 : Int) (a3 : Int) (r1 : Int) (r2 : Int) (r3 : Int) (r4 : Int) (r5 : Int) (r6 : Int) (r7 : Int) (r8 : List (S84)) (r9 : Int) (r10 : Int) (r11 : Int) (r12 : Int) (r13 : Int) (r14 : Int) (r15 : Int) (w : World) (hr0_7 : Kd.C k84 w A0_7 l0_7.length l0_7) (hc0_7 : l0_7.length ≤ c0_7) (h : spec_AskReader.f k a0_0 a0_1 a0_2 a0_3 a0_4 a0_5 a0_6 l0_7 a0_8 a0_9 a0_10 a0_11 a0_12 a0_13 a1 a2 a3 = some (r1,r2,r3,r4,r5,r6,r7,r8,r9,r10,r11,r12,r13,r14,r15)) :
  Calls Tryd.prog 27 #[.agg #[.int .i64 a0_0,.int .i64 a0_1,.int .i64 a0_2,.int .i64 a0_3,.int .i64 a0_4,.int .i64 a0_5,.int .i64 a0_6,.slice A0_7 l0_7.length c0_7,.int .i64 a0_8,.int .i64 a0_9,.int .i64 a0_10,.int .i64 a0_11,.int .i64 a0_12,.int .i64 a0_13],.int .i64 a1,.int .i64 a2,.int .i64 a3] w fun e w' => ∃ v7_ : Value,e = .returned (.tuple #[.agg #[.int .i64 r1,.int .i64 r2,.int .i64 r3,.int .i64 r4,.int .i64 r5,.int .i64 r6,.int .i64 r7,v7_,.int .i64 r9,.int .i64 r10,.int .i64 r11,.int .i64 r12,.int .i64 r13,.int .i64 r14],.int .i64 r15]) ∧ Kd.R k84 84 w' w.heap.size (fun _ => True) v7_ r8 ∧ Below w.heap.size w w' := by
 have hu60 := Tryd.underlying60
 have HR0_7 := Aside0.mk hr0_7
 have HC0_7 := Aside0.mk hc0_7
 clear hr0_7 hc0_7
 have HB := Aside0.mk (Below.refl w.heap.size w)
 have H : ((spec_ReaderOK.f k a0_0 a0_1 a0_2 a0_3 a0_4 a0_5 a0_6 l0_7 a0_8 a0_9 a0_10 a0_11 a0_12 a0_13).bind fun t228 => (if t228 = true then ((spec_l04Tier.f a1).bind fun t229 => (if t229 = true then ((spec_l04Range.f a2 a3).bind fun t230 => (spec_AskReader.j0 k a1 a2 a3 (!t230) a0_0 a0_1 a0_2 a0_3 a0_4 a0_5 a0_6 l0_7 a0_8 a0_9 a0_10 a0_11 a0_12 a0_13)) else (spec_AskReader.j0 k a1 a2 a3 true a0_0 a0_1 a0_2 a0_3 a0_4 a0_5 a0_6 l0_7 a0_8 a0_9 a0_10 a0_11 a0_12 a0_13))) else (some (0,0,0,0,0,0,0,([] : List (S84)),0,0,0,0,0,0,1)))) = some (r1,r2,r3,r4,r5,r6,r7,r8,r9,r10,r11,r12,r13,r14,r15) := h
 clear h
 replace H := Option.bind_eq_some_iff.mp H
 obtain ⟨t228,A50,H⟩ := H
 try dsimp only at H
 have A5 := Aside0.mk A50
 clear A50
 by_cases c6 : t228 = true
 ·subst c6
  rw [if_pos rfl] at H
  have HC7 := Aside0.mk H
  clear H
  go_enter Tryd.func27,Tryd.ntmps27
  go_upto_region 3 with (first | ((with_reducible refine gate_dst (N:=4) rfl ?_); refine box_event ?hg (N:=4) ?hd (cs := #[.int .i64 a0_0,.int .i64 a0_1,.int .i64 a0_2,.int .i64 a0_3,.int .i64 a0_4,.int .i64 a0_5,.int .i64 a0_6,.slice A0_7 l0_7.length c0_7,.int .i64 a0_8,.int .i64 a0_9,.int .i64 a0_10,.int .i64 a0_11,.int .i64 a0_12,.int .i64 a0_13]) (t:=60) ?hr ?_; (case hd => rfl); (case hg => rfl); (case hr => first | (go_simp; done) | (go_simp; rfl)); intro gb226 hg w8 hbox hb; have n0_ := Aside0.mk (below_step bA hb); have n1_ := Aside0.mk (hbox); have n2_ := Aside0.mk ((by rw [hg]; exact (below_size bA) : w.heap.size ≤ gb226)); have n3_ := Aside0.mk ((by rw [hg]; exact (below_size bA) : w.heap.size ≤ gb226)); clear HB; have HB := n0_; have BK226 := n1_; have GW226 := n2_; have GE226 := n3_; clear n0_ n1_ n2_ n3_; clear hb hbox hg) | ((with_reducible refine gate_dst (N:=8) rfl ?_); refine box_event ?hg (N:=8) ?hd (cs := #[.int .i64 0,.int .i64 0,.int .i64 0,.int .i64 0,.int .i64 0,.int .i64 0,.int .i64 0,.slice none 0 0,.int .i64 0,.int .i64 0,.int .i64 0,.int .i64 0,.int .i64 0,.int .i64 0]) (t:=60) ?hr ?_; (case hd => rfl); (case hg => rfl); (case hr => first | (go_simp; done) | (go_simp; rfl)); intro gb227 hg w9 hbox hb; have n0_ := Aside0.mk (blk_below (g:=gb226) (o:=.cells #[.int .i64 a0_0,.int .i64 a0_1,.int .i64 a0_2,.int .i64 a0_3,.int .i64 a0_4,.int .i64 a0_5,.int .i64 a0_6,.slice A0_7 l0_7.length c0_7,.int .i64 a0_8,.int .i64 a0_9,.int .i64 a0_10,.int .i64 a0_11,.int .i64 a0_12,.int .i64 a0_13] 60 (0,0)) (kA BK226.out) hb); have n1_ := Aside0.mk (below_step bA hb); have n2_ := Aside0.mk (hbox); have n3_ := Aside0.mk ((by rw [hg]; exact (below_size bA) : w.heap.size ≤ gb227)); have n4_ := Aside0.mk ((by rw [hg]; exact (below_size bA) : w.heap.size ≤ gb227)); have n5_ := Aside0.mk ((by rw [hg]; exact Nat.ne_of_lt (blk_lt (g:=gb226) (o:=.cells #[.int .i64 a0_0,.int .i64 a0_1,.int .i64 a0_2,.int .i64 a0_3,.int .i64 a0_4,.int .i64 a0_5,.int .i64 a0_6,.slice A0_7 l0_7.length c0_7,.int .i64 a0_8,.int .i64 a0_9,.int .i64 a0_10,.int .i64 a0_11,.int .i64 a0_12,.int .i64 a0_13] 60 (0,0)) (kA BK226.out)) : gb226 ≠ gb227)); have n6_ := Aside0.mk ((by rw [hg]; exact Nat.ne_of_gt (blk_lt (g:=gb226) (o:=.cells #[.int .i64 a0_0,.int .i64 a0_1,.int .i64 a0_2,.int .i64 a0_3,.int .i64 a0_4,.int .i64 a0_5,.int .i64 a0_6,.slice A0_7 l0_7.length c0_7,.int .i64 a0_8,.int .i64 a0_9,.int .i64 a0_10,.int .i64 a0_11,.int .i64 a0_12,.int .i64 a0_13] 60 (0,0)) (kA BK226.out)) : gb227 ≠ gb226)); clear BK226; clear HB; have BK226 := n0_; have HB := n1_; have BK227 := n2_; have GW227 := n3_; have GE227 := n4_; have NB226_227 := n5_; have NB227_226 := n6_; clear n0_ n1_ n2_ n3_ n4_ n5_ n6_; clear hb hbox hg; have hnb10 := NB226_227.out; have hnc10 := NB227_226.out; have hcz11_0 : w9.cell? ⟨gb226,0,none⟩ = some (.int .i64 a0_0) := (blk_cell BK226.out 0).trans rfl; have hcz11_1 : w9.cell? ⟨gb226,1,none⟩ = some (.int .i64 a0_1) := (blk_cell BK226.out 1).trans rfl; have hcz11_2 : w9.cell? ⟨gb226,2,none⟩ = some (.int .i64 a0_2) := (blk_cell BK226.out 2).trans rfl; have hcz11_3 : w9.cell? ⟨gb226,3,none⟩ = some (.int .i64 a0_3) := (blk_cell BK226.out 3).trans rfl; have hcz11_4 : w9.cell? ⟨gb226,4,none⟩ = some (.int .i64 a0_4) := (blk_cell BK226.out 4).trans rfl; have hcz11_5 : w9.cell? ⟨gb226,5,none⟩ = some (.int .i64 a0_5) := (blk_cell BK226.out 5).trans rfl; have hcz11_6 : w9.cell? ⟨gb226,6,none⟩ = some (.int .i64 a0_6) := (blk_cell BK226.out 6).trans rfl; have hcz11_7 : w9.cell? ⟨gb226,7,none⟩ = some (.slice A0_7 l0_7.length c0_7) := (blk_cell BK226.out 7).trans rfl; have hcz11_8 : w9.cell? ⟨gb226,8,none⟩ = some (.int .i64 a0_8) := (blk_cell BK226.out 8).trans rfl; have hcz11_9 : w9.cell? ⟨gb226,9,none⟩ = some (.int .i64 a0_9) := (blk_cell BK226.out 9).trans rfl; have hcz11_10 : w9.cell? ⟨gb226,10,none⟩ = some (.int .i64 a0_10) := (blk_cell BK226.out 10).trans rfl; have hcz11_11 : w9.cell? ⟨gb226,11,none⟩ = some (.int .i64 a0_11) := (blk_cell BK226.out 11).trans rfl; have hcz11_12 : w9.cell? ⟨gb226,12,none⟩ = some (.int .i64 a0_12) := (blk_cell BK226.out 12).trans rfl; have hcz11_13 : w9.cell? ⟨gb226,13,none⟩ = some (.int .i64 a0_13) := (blk_cell BK226.out 13).trans rfl; have hfz11_0 := blk_frozen BK226.out 0; have hfz11_1 := blk_frozen BK226.out 1; have hfz11_2 := blk_frozen BK226.out 2; have hfz11_3 := blk_frozen BK226.out 3; have hfz11_4 := blk_frozen BK226.out 4; have hfz11_5 := blk_frozen BK226.out 5; have hfz11_6 := blk_frozen BK226.out 6; have hfz11_7 := blk_frozen BK226.out 7; have hfz11_8 := blk_frozen BK226.out 8; have hfz11_9 := blk_frozen BK226.out 9; have hfz11_10 := blk_frozen BK226.out 10; have hfz11_11 := blk_frozen BK226.out 11; have hfz11_12 := blk_frozen BK226.out 12; have hfz11_13 := blk_frozen BK226.out 13) | ((with_reducible refine gate_callee (f:=23) rfl ?_); refine goesL_ (some 11) rfl rfl Tryd.func23 (by kernel_rfl) rfl #[.agg #[.int .i64 a0_0,.int .i64 a0_1,.int .i64 a0_2,.int .i64 a0_3,.int .i64 a0_4,.int .i64 a0_5,.int .i64 a0_6,.slice A0_7 l0_7.length c0_7,.int .i64 a0_8,.int .i64 a0_9,.int .i64 a0_10,.int .i64 a0_11,.int .i64 a0_12,.int .i64 a0_13]] rfl mA ?_; (with_reducible refine (spec_ReaderOK.calls k a0_0 a0_1 a0_2 a0_3 a0_4 a0_5 a0_6 _ _ l0_7 a0_8 a0_9 a0_10 a0_11 a0_12 a0_13 true _ ?side1 ?side2 A5.out).mono ?_); (case side1 => repeat (first | exact (Kd.C_below HR0_7.out HB.out) | (with_reducible refine Kd.C_alloc ?_ _) | (with_reducible refine Kd.C_drewN ?_ _) | (with_reducible refine Kd.C_drew ?_))); (case side2 => exact HC0_7.out); rintro e w12 ⟨rfl,hb⟩; refine ⟨_,rfl,?_⟩; have n0_ := Aside0.mk (blk_below (g:=gb226) (o:=.cells #[.int .i64 a0_0,.int .i64 a0_1,.int .i64 a0_2,.int .i64 a0_3,.int .i64 a0_4,.int .i64 a0_5,.int .i64 a0_6,.slice A0_7 l0_7.length c0_7,.int .i64 a0_8,.int .i64 a0_9,.int .i64 a0_10,.int .i64 a0_11,.int .i64 a0_12,.int .i64 a0_13] 60 (0,0)) (kA BK226.out) hb); have n1_ := Aside0.mk (blk_below (g:=gb227) (o:=.cells #[.int .i64 0,.int .i64 0,.int .i64 0,.int .i64 0,.int .i64 0,.int .i64 0,.int .i64 0,.slice none 0 0,.int .i64 0,.int .i64 0,.int .i64 0,.int .i64 0,.int .i64 0,.int .i64 0] 60 (0,0)) (kA BK227.out) hb); have n2_ := Aside0.mk (below_step bA hb); clear BK226; clear BK227; clear HB; have BK226 := n0_; have BK227 := n1_; have HB := n2_; clear n0_ n1_ n2_; (try clear hb); (try clear hb2); (try clear hk); (try clear hi)))
  (try simp only [Act.put,setIfInBounds_toArray,set_cons_zero,set_cons_succ])
  go_cut [22] (fun v22 wc => ∃ (kq : Nat) (x22_6 : Bool),v22 = .bool x22_6 ∧ Aside0 (spec_AskReader.j0 kq a1 a2 a3 x22_6 a0_0 a0_1 a0_2 a0_3 a0_4 a0_5 a0_6 l0_7 a0_8 a0_9 a0_10 a0_11 a0_12 a0_13 = some (r1,r2,r3,r4,r5,r6,r7,r8,r9,r10,r11,r12,r13,r14,r15)) ∧ Aside0 (kq ≤ k) ∧ Aside0 (wc.heap[gb226]? = some (.cells #[.int .i64 a0_0,.int .i64 a0_1,.int .i64 a0_2,.int .i64 a0_3,.int .i64 a0_4,.int .i64 a0_5,.int .i64 a0_6,(.slice A0_7 l0_7.length c0_7),.int .i64 a0_8,.int .i64 a0_9,.int .i64 a0_10,.int .i64 a0_11,.int .i64 a0_12,.int .i64 a0_13] 60 (0,0))) ∧ Aside0 (wc.heap[gb227]? = some (.cells #[.int .i64 0,.int .i64 0,.int .i64 0,.int .i64 0,.int .i64 0,.int .i64 0,.int .i64 0,(.slice none 0 0),.int .i64 0,.int .i64 0,.int .i64 0,.int .i64 0,.int .i64 0,.int .i64 0] 60 (0,0))) ∧ Aside0 (Below w.heap.size w wc))
  case first =>
   have H := HC7.out
   clear HC7
   replace H := Option.bind_eq_some_iff.mp H
   obtain ⟨t229,A130,H⟩ := H
   try dsimp only at H
   have A13 := Aside0.mk A130
   clear A130
   by_cases c14 : t229 = true
   ·subst c14
    rw [if_pos rfl] at H
    replace H := Option.bind_eq_some_iff.mp H
    obtain ⟨t230,A150,H⟩ := H
    try dsimp only at H
    have A15 := Aside0.mk A150
    clear A150
    have H' := Aside0.mk H
    clear H
    go_wp2_with (first | ((with_reducible refine gate_callee (f:=62) rfl ?_); refine goesL_ (some 15) rfl rfl Tryd.func62 (by kernel_rfl) rfl #[.int .i64 a1] rfl mA ?_; (with_reducible refine (spec_l04Tier.calls a1 true _ A13.out).mono ?_); rintro e w' ⟨rfl,⟨nd,rfl⟩⟩; refine ⟨_,rfl,?_⟩) | (go_at_call 63; (with_reducible refine (spec_l04Range.calls a2 a3 t230 _ A15.out).mono ?_); rintro e w' ⟨rfl,⟨nd,rfl⟩⟩))
    go_meet
    case rel => exact ⟨_,(!t230),(by first | rfl | (simp; done) | (simp [*]; done)),H',⟨by first | omega | exact Nat.le_refl _⟩,⟨kA BK226.out⟩,⟨kA BK227.out⟩,⟨bA⟩⟩
   ·replace c14 := Bool.eq_false_iff.mpr c14
    subst c14
    rw [if_neg (show ¬ (false = true) by decide)] at H
    have H' := Aside0.mk H
    clear H
    go_wp2_with (first | ((with_reducible refine gate_callee (f:=62) rfl ?_); refine goesL_ (some 15) rfl rfl Tryd.func62 (by kernel_rfl) rfl #[.int .i64 a1] rfl mA ?_; (with_reducible refine (spec_l04Tier.calls a1 false _ A13.out).mono ?_); rintro e w' ⟨rfl,⟨nd,rfl⟩⟩; refine ⟨_,rfl,?_⟩))
    go_meet
    case rel => exact ⟨_,(true),(by first | rfl | (simp; done) | (simp [*]; done)),H',⟨by first | omega | exact Nat.le_refl _⟩,⟨kA BK226.out⟩,⟨kA BK227.out⟩,⟨bA⟩⟩
  case rest =>
   clear HC7
   try clear c1
   try clear c2
   try clear p2
   try clear c6
   try clear c10
   try clear c14
   try clear hcz11_0
   try clear hcz11_1
   try clear hcz11_10
   try clear hcz11_11
   try clear hcz11_12
   try clear hcz11_13
   try clear hcz11_2
   try clear hcz11_3
   try clear hcz11_4
   try clear hcz11_5
   try clear hcz11_6
   try clear hcz11_7
   try clear hcz11_8
   try clear hcz11_9
   try clear hfz11_0
   try clear hfz11_1
   try clear hfz11_10
   try clear hfz11_11
   try clear hfz11_12
   try clear hfz11_13
   try clear hfz11_2
   try clear hfz11_3
   try clear hfz11_4
   try clear hfz11_5
   try clear hfz11_6
   try clear hfz11_7
   try clear hfz11_8
   try clear hfz11_9
   obtain ⟨kq,x22_6,rfl,HA,HJ6,BK226,BK227,HB⟩ := hcut
   cases kq with
   | zero => exact absurd HA.out (by simp [spec_AskReader.j0])
   | succ kj6 =>
    have H := HA.out
    clear HA
    simp only [spec_AskReader.j0] at H
    by_cases c16 : x22_6 = true
    ·subst c16
     rw [if_pos rfl] at H
     simp only [Option.some.injEq,Prod.mk.injEq] at H
     obtain ⟨rfl,rfl,rfl,rfl,rfl,rfl,rfl,rfl,rfl,rfl,rfl,rfl,rfl,rfl,rfl⟩ := H
     have hnb17 := NB227_226.out
     have hnc17 := NB226_227.out
     have hcz18_0 : wc.cell? ⟨gb227,0,none⟩ = some (.int .i64 0) := (blk_cell BK227.out 0).trans rfl
     have hcz18_1 : wc.cell? ⟨gb227,1,none⟩ = some (.int .i64 0) := (blk_cell BK227.out 1).trans rfl
     have hcz18_2 : wc.cell? ⟨gb227,2,none⟩ = some (.int .i64 0) := (blk_cell BK227.out 2).trans rfl
     have hcz18_3 : wc.cell? ⟨gb227,3,none⟩ = some (.int .i64 0) := (blk_cell BK227.out 3).trans rfl
     have hcz18_4 : wc.cell? ⟨gb227,4,none⟩ = some (.int .i64 0) := (blk_cell BK227.out 4).trans rfl
     have hcz18_5 : wc.cell? ⟨gb227,5,none⟩ = some (.int .i64 0) := (blk_cell BK227.out 5).trans rfl
     have hcz18_6 : wc.cell? ⟨gb227,6,none⟩ = some (.int .i64 0) := (blk_cell BK227.out 6).trans rfl
     have hcz18_7 : wc.cell? ⟨gb227,7,none⟩ = some (.slice none 0 0) := (blk_cell BK227.out 7).trans rfl
     have hcz18_8 : wc.cell? ⟨gb227,8,none⟩ = some (.int .i64 0) := (blk_cell BK227.out 8).trans rfl
     have hcz18_9 : wc.cell? ⟨gb227,9,none⟩ = some (.int .i64 0) := (blk_cell BK227.out 9).trans rfl
     have hcz18_10 : wc.cell? ⟨gb227,10,none⟩ = some (.int .i64 0) := (blk_cell BK227.out 10).trans rfl
     have hcz18_11 : wc.cell? ⟨gb227,11,none⟩ = some (.int .i64 0) := (blk_cell BK227.out 11).trans rfl
     have hcz18_12 : wc.cell? ⟨gb227,12,none⟩ = some (.int .i64 0) := (blk_cell BK227.out 12).trans rfl
     have hcz18_13 : wc.cell? ⟨gb227,13,none⟩ = some (.int .i64 0) := (blk_cell BK227.out 13).trans rfl
     have hfz18_0 := blk_frozen BK227.out 0
     have hfz18_1 := blk_frozen BK227.out 1
     have hfz18_2 := blk_frozen BK227.out 2
     have hfz18_3 := blk_frozen BK227.out 3
     have hfz18_4 := blk_frozen BK227.out 4
     have hfz18_5 := blk_frozen BK227.out 5
     have hfz18_6 := blk_frozen BK227.out 6
     have hfz18_7 := blk_frozen BK227.out 7
     have hfz18_8 := blk_frozen BK227.out 8
     have hfz18_9 := blk_frozen BK227.out 9
     have hfz18_10 := blk_frozen BK227.out 10
     have hfz18_11 := blk_frozen BK227.out 11
     have hfz18_12 := blk_frozen BK227.out 12
     have hfz18_13 := blk_frozen BK227.out 13
     go_wp2
     refine bodyPost_ret (results_ct rfl _ _ gb227 60 #[.int .i64 0,.int .i64 0,.int .i64 0,.int .i64 0,.int .i64 0,.int .i64 0,.int .i64 0,.slice none 0 0,.int .i64 0,.int .i64 0,.int .i64 0,.int .i64 0,.int .i64 0,.int .i64 0] (0,0) _ rfl (by (with_reducible repeat (first | refine blk_drewN ?_ _ | refine blk_drew ?_ | refine blk_alloc ?_ _)); refine blk_put (cs := #[.int .i64 0,.int .i64 0,.int .i64 0,.int .i64 0,.int .i64 0,.int .i64 0,.int .i64 0,.slice none 0 0,.int .i64 0,.int .i64 0,.int .i64 0,.int .i64 0,.int .i64 0,.int .i64 0]) ?_ 13 _ rfl; (with_reducible repeat (first | refine blk_drewN ?_ _ | refine blk_drew ?_ | refine blk_alloc ?_ _)); refine blk_put (cs := #[.int .i64 0,.int .i64 0,.int .i64 0,.int .i64 0,.int .i64 0,.int .i64 0,.int .i64 0,.slice none 0 0,.int .i64 0,.int .i64 0,.int .i64 0,.int .i64 0,.int .i64 0,.int .i64 0]) ?_ 12 _ rfl; (with_reducible repeat (first | refine blk_drewN ?_ _ | refine blk_drew ?_ | refine blk_alloc ?_ _)); refine blk_put (cs := #[.int .i64 0,.int .i64 0,.int .i64 0,.int .i64 0,.int .i64 0,.int .i64 0,.int .i64 0,.slice none 0 0,.int .i64 0,.int .i64 0,.int .i64 0,.int .i64 0,.int .i64 0,.int .i64 0]) ?_ 11 _ rfl; (with_reducible repeat (first | refine blk_drewN ?_ _ | refine blk_drew ?_ | refine blk_alloc ?_ _)); refine blk_put (cs := #[.int .i64 0,.int .i64 0,.int .i64 0,.int .i64 0,.int .i64 0,.int .i64 0,.int .i64 0,.slice none 0 0,.int .i64 0,.int .i64 0,.int .i64 0,.int .i64 0,.int .i64 0,.int .i64 0]) ?_ 10 _ rfl; (with_reducible repeat (first | refine blk_drewN ?_ _ | refine blk_drew ?_ | refine blk_alloc ?_ _)); refine blk_put (cs := #[.int .i64 0,.int .i64 0,.int .i64 0,.int .i64 0,.int .i64 0,.int .i64 0,.int .i64 0,.slice none 0 0,.int .i64 0,.int .i64 0,.int .i64 0,.int .i64 0,.int .i64 0,.int .i64 0]) ?_ 9 _ rfl; (with_reducible repeat (first | refine blk_drewN ?_ _ | refine blk_drew ?_ | refine blk_alloc ?_ _)); refine blk_put (cs := #[.int .i64 0,.int .i64 0,.int .i64 0,.int .i64 0,.int .i64 0,.int .i64 0,.int .i64 0,.slice none 0 0,.int .i64 0,.int .i64 0,.int .i64 0,.int .i64 0,.int .i64 0,.int .i64 0]) ?_ 8 _ rfl; (with_reducible repeat (first | refine blk_drewN ?_ _ | refine blk_drew ?_ | refine blk_alloc ?_ _)); refine blk_put (cs := #[.int .i64 0,.int .i64 0,.int .i64 0,.int .i64 0,.int .i64 0,.int .i64 0,.int .i64 0,.slice none 0 0,.int .i64 0,.int .i64 0,.int .i64 0,.int .i64 0,.int .i64 0,.int .i64 0]) ?_ 7 _ rfl; (with_reducible repeat (first | refine blk_drewN ?_ _ | refine blk_drew ?_ | refine blk_alloc ?_ _)); refine blk_put (cs := #[.int .i64 0,.int .i64 0,.int .i64 0,.int .i64 0,.int .i64 0,.int .i64 0,.int .i64 0,.slice none 0 0,.int .i64 0,.int .i64 0,.int .i64 0,.int .i64 0,.int .i64 0,.int .i64 0]) ?_ 6 _ rfl; (with_reducible repeat (first | refine blk_drewN ?_ _ | refine blk_drew ?_ | refine blk_alloc ?_ _)); refine blk_put (cs := #[.int .i64 0,.int .i64 0,.int .i64 0,.int .i64 0,.int .i64 0,.int .i64 0,.int .i64 0,.slice none 0 0,.int .i64 0,.int .i64 0,.int .i64 0,.int .i64 0,.int .i64 0,.int .i64 0]) ?_ 5 _ rfl; (with_reducible repeat (first | refine blk_drewN ?_ _ | refine blk_drew ?_ | refine blk_alloc ?_ _)); refine blk_put (cs := #[.int .i64 0,.int .i64 0,.int .i64 0,.int .i64 0,.int .i64 0,.int .i64 0,.int .i64 0,.slice none 0 0,.int .i64 0,.int .i64 0,.int .i64 0,.int .i64 0,.int .i64 0,.int .i64 0]) ?_ 4 _ rfl; (with_reducible repeat (first | refine blk_drewN ?_ _ | refine blk_drew ?_ | refine blk_alloc ?_ _)); refine blk_put (cs := #[.int .i64 0,.int .i64 0,.int .i64 0,.int .i64 0,.int .i64 0,.int .i64 0,.int .i64 0,.slice none 0 0,.int .i64 0,.int .i64 0,.int .i64 0,.int .i64 0,.int .i64 0,.int .i64 0]) ?_ 3 _ rfl; (with_reducible repeat (first | refine blk_drewN ?_ _ | refine blk_drew ?_ | refine blk_alloc ?_ _)); refine blk_put (cs := #[.int .i64 0,.int .i64 0,.int .i64 0,.int .i64 0,.int .i64 0,.int .i64 0,.int .i64 0,.slice none 0 0,.int .i64 0,.int .i64 0,.int .i64 0,.int .i64 0,.int .i64 0,.int .i64 0]) ?_ 2 _ rfl; (with_reducible repeat (first | refine blk_drewN ?_ _ | refine blk_drew ?_ | refine blk_alloc ?_ _)); refine blk_put (cs := #[.int .i64 0,.int .i64 0,.int .i64 0,.int .i64 0,.int .i64 0,.int .i64 0,.int .i64 0,.slice none 0 0,.int .i64 0,.int .i64 0,.int .i64 0,.int .i64 0,.int .i64 0,.int .i64 0]) ?_ 1 _ rfl; (with_reducible repeat (first | refine blk_drewN ?_ _ | refine blk_drew ?_ | refine blk_alloc ?_ _)); refine blk_put (cs := #[.int .i64 0,.int .i64 0,.int .i64 0,.int .i64 0,.int .i64 0,.int .i64 0,.int .i64 0,.slice none 0 0,.int .i64 0,.int .i64 0,.int .i64 0,.int .i64 0,.int .i64 0,.int .i64 0]) ?_ 0 _ rfl; (with_reducible repeat (first | refine blk_drewN ?_ _ | refine blk_drew ?_ | refine blk_alloc ?_ _)); exact BK227.out) Tryd.underlying60 rfl (by kernel_rfl)) rfl ?_
     exact ⟨_,by first | rfl | (simp [errW_none,errW_some] <;> rfl) | (simp [*,errW_none,errW_some] <;> rfl),by first | exact Kd.R_nil _ _ _ _ _ | exact Kd.N_nil _ _ _ _ _ | exact Kd.V_nil _ _ _ _ _ | exact Kd.Q_nil _ _ _ _ _ | exact Kd.S_nil _ _ _ _ _,bA⟩
    ·replace c16 := Bool.eq_false_iff.mpr c16
     subst c16
     rw [if_neg (show ¬ (false = true) by decide)] at H
     by_cases c19 : a0_1 = 0
     ·rw [if_pos c19] at H
      have c19b0 : (a0_1 == 0) = true := beq_iff_eq.mpr c19
      have c19b1 : (a0_1 != 0) = false := bne_eq_false_iff_eq.mpr c19
      clear c19
      obtain ⟨y231,hy231⟩ : ∃ y_ : List (S84),y_ = (([] : List (S84))) := ⟨_,rfl⟩
      replace H : (some (a0_0,1,a1,a2,a3,0,0,y231,0,0,0,0,0,0,0)) = some (r1,r2,r3,r4,r5,r6,r7,r8,r9,r10,r11,r12,r13,r14,r15) := by first | (rw [hy231]; with_reducible exact H) | (have H2_ := (Option.bind_some _ _).symm.trans H; rw [hy231]; with_reducible exact H2_) | (have H2_ := (Option.bind_some _ _).symm.trans H; with_reducible exact H2_) | with_reducible exact H | (rw [hy231]; exact H) | exact H
      have Ny231 := Aside0.mk hy231
      clear hy231
      simp only [Option.some.injEq,Prod.mk.injEq] at H
      obtain ⟨rfl,rfl,rfl,rfl,rfl,rfl,rfl,rfl,rfl,rfl,rfl,rfl,rfl,rfl,rfl⟩ := H
      have hnb20 := NB226_227.out
      have hnc20 := NB227_226.out
      have hcz21_0 : wc.cell? ⟨gb226,0,none⟩ = some (.int .i64 a0_0) := (blk_cell BK226.out 0).trans rfl
      have hcz21_1 : wc.cell? ⟨gb226,1,none⟩ = some (.int .i64 a0_1) := (blk_cell BK226.out 1).trans rfl
      have hcz21_2 : wc.cell? ⟨gb226,2,none⟩ = some (.int .i64 a0_2) := (blk_cell BK226.out 2).trans rfl
      have hcz21_3 : wc.cell? ⟨gb226,3,none⟩ = some (.int .i64 a0_3) := (blk_cell BK226.out 3).trans rfl
      have hcz21_4 : wc.cell? ⟨gb226,4,none⟩ = some (.int .i64 a0_4) := (blk_cell BK226.out 4).trans rfl
      have hcz21_5 : wc.cell? ⟨gb226,5,none⟩ = some (.int .i64 a0_5) := (blk_cell BK226.out 5).trans rfl
      have hcz21_6 : wc.cell? ⟨gb226,6,none⟩ = some (.int .i64 a0_6) := (blk_cell BK226.out 6).trans rfl
      have hcz21_7 : wc.cell? ⟨gb226,7,none⟩ = some (.slice A0_7 l0_7.length c0_7) := (blk_cell BK226.out 7).trans rfl
      have hcz21_8 : wc.cell? ⟨gb226,8,none⟩ = some (.int .i64 a0_8) := (blk_cell BK226.out 8).trans rfl
      have hcz21_9 : wc.cell? ⟨gb226,9,none⟩ = some (.int .i64 a0_9) := (blk_cell BK226.out 9).trans rfl
      have hcz21_10 : wc.cell? ⟨gb226,10,none⟩ = some (.int .i64 a0_10) := (blk_cell BK226.out 10).trans rfl
      have hcz21_11 : wc.cell? ⟨gb226,11,none⟩ = some (.int .i64 a0_11) := (blk_cell BK226.out 11).trans rfl
      have hcz21_12 : wc.cell? ⟨gb226,12,none⟩ = some (.int .i64 a0_12) := (blk_cell BK226.out 12).trans rfl
      have hcz21_13 : wc.cell? ⟨gb226,13,none⟩ = some (.int .i64 a0_13) := (blk_cell BK226.out 13).trans rfl
      have hfz21_0 := blk_frozen BK226.out 0
      have hfz21_1 := blk_frozen BK226.out 1
      have hfz21_2 := blk_frozen BK226.out 2
      have hfz21_3 := blk_frozen BK226.out 3
      have hfz21_4 := blk_frozen BK226.out 4
      have hfz21_5 := blk_frozen BK226.out 5
      have hfz21_6 := blk_frozen BK226.out 6
      have hfz21_7 := blk_frozen BK226.out 7
      have hfz21_8 := blk_frozen BK226.out 8
      have hfz21_9 := blk_frozen BK226.out 9
      have hfz21_10 := blk_frozen BK226.out 10
      have hfz21_11 := blk_frozen BK226.out 11
      have hfz21_12 := blk_frozen BK226.out 12
      have hfz21_13 := blk_frozen BK226.out 13
      go_wp2_with (first | ((with_reducible refine gate_dst (N:=34) rfl ?_); refine Kd.R_lit k84 _ 84 ?hg (N:=34) ?hd (xs := ([] : List (S84))) (inner := []) (ok := fun _ => True) (okp := fun _ => True) ?hr ?hp (fun _ hk => hk) trivial (Below.refl _ _) (Nat.le_refl _) (by simp) ?_; (case hd => rfl); (case hg => rfl); (case hr => first | (go_simp; done) | (go_simp; rfl)); (case hp => exact (Reps.none _ _)); intro v232 w22 ho23 hb hg_ hnew_; clear hg_ hnew_; (first | rw [← Ny231.out] at ho23 | (simp only [Int.reduceToNat] at ho23; rw [← Ny231.out] at ho23)); have n0_ := Aside0.mk (Kd.R_lower ho23 (below_size bA)); have n1_ := Aside0.mk (blk_below (g:=gb226) (o:=.cells #[.int .i64 a0_0,.int .i64 a0_1,.int .i64 a0_2,.int .i64 a0_3,.int .i64 a0_4,.int .i64 a0_5,.int .i64 a0_6,.slice A0_7 l0_7.length c0_7,.int .i64 a0_8,.int .i64 a0_9,.int .i64 a0_10,.int .i64 a0_11,.int .i64 a0_12,.int .i64 a0_13] 60 (0,0)) (kA BK226.out) hb); have n2_ := Aside0.mk (blk_below (g:=gb227) (o:=.cells #[.int .i64 0,.int .i64 0,.int .i64 0,.int .i64 0,.int .i64 0,.int .i64 0,.int .i64 0,.slice none 0 0,.int .i64 0,.int .i64 0,.int .i64 0,.int .i64 0,.int .i64 0,.int .i64 0] 60 (0,0)) (kA BK227.out) hb); have n3_ := Aside0.mk (below_step bA hb); clear BK226; clear BK227; clear HB; have HO233 := n0_; have BK226 := n1_; have BK227 := n2_; have HB := n3_; clear n0_ n1_ n2_ n3_; clear hb ho23; obtain ⟨Ao24,co24,eo24⟩ := Kd.R_slice HO233.out; subst eo24; have hcz25_0 : w22.cell? ⟨gb227,0,none⟩ = some (.int .i64 0) := (blk_cell BK227.out 0).trans rfl; have hcz25_1 : w22.cell? ⟨gb227,1,none⟩ = some (.int .i64 0) := (blk_cell BK227.out 1).trans rfl; have hcz25_2 : w22.cell? ⟨gb227,2,none⟩ = some (.int .i64 0) := (blk_cell BK227.out 2).trans rfl; have hcz25_3 : w22.cell? ⟨gb227,3,none⟩ = some (.int .i64 0) := (blk_cell BK227.out 3).trans rfl; have hcz25_4 : w22.cell? ⟨gb227,4,none⟩ = some (.int .i64 0) := (blk_cell BK227.out 4).trans rfl; have hcz25_5 : w22.cell? ⟨gb227,5,none⟩ = some (.int .i64 0) := (blk_cell BK227.out 5).trans rfl; have hcz25_6 : w22.cell? ⟨gb227,6,none⟩ = some (.int .i64 0) := (blk_cell BK227.out 6).trans rfl; have hcz25_7 : w22.cell? ⟨gb227,7,none⟩ = some (.slice none 0 0) := (blk_cell BK227.out 7).trans rfl; have hcz25_8 : w22.cell? ⟨gb227,8,none⟩ = some (.int .i64 0) := (blk_cell BK227.out 8).trans rfl; have hcz25_9 : w22.cell? ⟨gb227,9,none⟩ = some (.int .i64 0) := (blk_cell BK227.out 9).trans rfl; have hcz25_10 : w22.cell? ⟨gb227,10,none⟩ = some (.int .i64 0) := (blk_cell BK227.out 10).trans rfl; have hcz25_11 : w22.cell? ⟨gb227,11,none⟩ = some (.int .i64 0) := (blk_cell BK227.out 11).trans rfl; have hcz25_12 : w22.cell? ⟨gb227,12,none⟩ = some (.int .i64 0) := (blk_cell BK227.out 12).trans rfl; have hcz25_13 : w22.cell? ⟨gb227,13,none⟩ = some (.int .i64 0) := (blk_cell BK227.out 13).trans rfl; have hfz25_0 := blk_frozen BK227.out 0; have hfz25_1 := blk_frozen BK227.out 1; have hfz25_2 := blk_frozen BK227.out 2; have hfz25_3 := blk_frozen BK227.out 3; have hfz25_4 := blk_frozen BK227.out 4; have hfz25_5 := blk_frozen BK227.out 5; have hfz25_6 := blk_frozen BK227.out 6; have hfz25_7 := blk_frozen BK227.out 7; have hfz25_8 := blk_frozen BK227.out 8; have hfz25_9 := blk_frozen BK227.out 9; have hfz25_10 := blk_frozen BK227.out 10; have hfz25_11 := blk_frozen BK227.out 11; have hfz25_12 := blk_frozen BK227.out 12; have hfz25_13 := blk_frozen BK227.out 13))
      refine bodyPost_ret (results_ct rfl _ _ gb227 60 #[.int .i64 a0_0,.int .i64 1,.int .i64 a1,.int .i64 a2,.int .i64 a3,.int .i64 0,.int .i64 0,.slice Ao24 y231.length co24,.int .i64 0,.int .i64 0,.int .i64 0,.int .i64 0,.int .i64 0,.int .i64 0] (0,0) _ rfl (by (with_reducible repeat (first | refine blk_drewN ?_ _ | refine blk_drew ?_ | refine blk_alloc ?_ _)); refine blk_put (cs := #[.int .i64 a0_0,.int .i64 1,.int .i64 a1,.int .i64 a2,.int .i64 a3,.int .i64 0,.int .i64 0,.slice Ao24 y231.length co24,.int .i64 0,.int .i64 0,.int .i64 0,.int .i64 0,.int .i64 0,.int .i64 0]) ?_ 13 _ rfl; (with_reducible repeat (first | refine blk_drewN ?_ _ | refine blk_drew ?_ | refine blk_alloc ?_ _)); refine blk_put (cs := #[.int .i64 a0_0,.int .i64 1,.int .i64 a1,.int .i64 a2,.int .i64 a3,.int .i64 0,.int .i64 0,.slice Ao24 y231.length co24,.int .i64 0,.int .i64 0,.int .i64 0,.int .i64 0,.int .i64 0,.int .i64 0]) ?_ 12 _ rfl; (with_reducible repeat (first | refine blk_drewN ?_ _ | refine blk_drew ?_ | refine blk_alloc ?_ _)); refine blk_put (cs := #[.int .i64 a0_0,.int .i64 1,.int .i64 a1,.int .i64 a2,.int .i64 a3,.int .i64 0,.int .i64 0,.slice Ao24 y231.length co24,.int .i64 0,.int .i64 0,.int .i64 0,.int .i64 0,.int .i64 0,.int .i64 0]) ?_ 11 _ rfl; (with_reducible repeat (first | refine blk_drewN ?_ _ | refine blk_drew ?_ | refine blk_alloc ?_ _)); refine blk_put (cs := #[.int .i64 a0_0,.int .i64 1,.int .i64 a1,.int .i64 a2,.int .i64 a3,.int .i64 0,.int .i64 0,.slice Ao24 y231.length co24,.int .i64 0,.int .i64 0,.int .i64 0,.int .i64 0,.int .i64 0,.int .i64 0]) ?_ 10 _ rfl; (with_reducible repeat (first | refine blk_drewN ?_ _ | refine blk_drew ?_ | refine blk_alloc ?_ _)); refine blk_put (cs := #[.int .i64 a0_0,.int .i64 1,.int .i64 a1,.int .i64 a2,.int .i64 a3,.int .i64 0,.int .i64 0,.slice Ao24 y231.length co24,.int .i64 0,.int .i64 0,.int .i64 0,.int .i64 0,.int .i64 0,.int .i64 0]) ?_ 9 _ rfl; (with_reducible repeat (first | refine blk_drewN ?_ _ | refine blk_drew ?_ | refine blk_alloc ?_ _)); refine blk_put (cs := #[.int .i64 a0_0,.int .i64 1,.int .i64 a1,.int .i64 a2,.int .i64 a3,.int .i64 0,.int .i64 0,.slice Ao24 y231.length co24,.int .i64 0,.int .i64 0,.int .i64 0,.int .i64 0,.int .i64 0,.int .i64 0]) ?_ 8 _ rfl; (with_reducible repeat (first | refine blk_drewN ?_ _ | refine blk_drew ?_ | refine blk_alloc ?_ _)); refine blk_put (cs := #[.int .i64 a0_0,.int .i64 1,.int .i64 a1,.int .i64 a2,.int .i64 a3,.int .i64 0,.int .i64 0,.slice none 0 0,.int .i64 0,.int .i64 0,.int .i64 0,.int .i64 0,.int .i64 0,.int .i64 0]) ?_ 7 _ rfl; (with_reducible repeat (first | refine blk_drewN ?_ _ | refine blk_drew ?_ | refine blk_alloc ?_ _)); refine blk_put (cs := #[.int .i64 a0_0,.int .i64 1,.int .i64 a1,.int .i64 a2,.int .i64 a3,.int .i64 0,.int .i64 0,.slice none 0 0,.int .i64 0,.int .i64 0,.int .i64 0,.int .i64 0,.int .i64 0,.int .i64 0]) ?_ 6 _ rfl; (with_reducible repeat (first | refine blk_drewN ?_ _ | refine blk_drew ?_ | refine blk_alloc ?_ _)); refine blk_put (cs := #[.int .i64 a0_0,.int .i64 1,.int .i64 a1,.int .i64 a2,.int .i64 a3,.int .i64 0,.int .i64 0,.slice none 0 0,.int .i64 0,.int .i64 0,.int .i64 0,.int .i64 0,.int .i64 0,.int .i64 0]) ?_ 5 _ rfl; (with_reducible repeat (first | refine blk_drewN ?_ _ | refine blk_drew ?_ | refine blk_alloc ?_ _)); refine blk_put (cs := #[.int .i64 a0_0,.int .i64 1,.int .i64 a1,.int .i64 a2,.int .i64 0,.int .i64 0,.int .i64 0,.slice none 0 0,.int .i64 0,.int .i64 0,.int .i64 0,.int .i64 0,.int .i64 0,.int .i64 0]) ?_ 4 _ rfl; (with_reducible repeat (first | refine blk_drewN ?_ _ | refine blk_drew ?_ | refine blk_alloc ?_ _)); refine blk_put (cs := #[.int .i64 a0_0,.int .i64 1,.int .i64 a1,.int .i64 0,.int .i64 0,.int .i64 0,.int .i64 0,.slice none 0 0,.int .i64 0,.int .i64 0,.int .i64 0,.int .i64 0,.int .i64 0,.int .i64 0]) ?_ 3 _ rfl; (with_reducible repeat (first | refine blk_drewN ?_ _ | refine blk_drew ?_ | refine blk_alloc ?_ _)); refine blk_put (cs := #[.int .i64 a0_0,.int .i64 1,.int .i64 0,.int .i64 0,.int .i64 0,.int .i64 0,.int .i64 0,.slice none 0 0,.int .i64 0,.int .i64 0,.int .i64 0,.int .i64 0,.int .i64 0,.int .i64 0]) ?_ 2 _ rfl; (with_reducible repeat (first | refine blk_drewN ?_ _ | refine blk_drew ?_ | refine blk_alloc ?_ _)); refine blk_put (cs := #[.int .i64 a0_0,.int .i64 0,.int .i64 0,.int .i64 0,.int .i64 0,.int .i64 0,.int .i64 0,.slice none 0 0,.int .i64 0,.int .i64 0,.int .i64 0,.int .i64 0,.int .i64 0,.int .i64 0]) ?_ 1 _ rfl; (with_reducible repeat (first | refine blk_drewN ?_ _ | refine blk_drew ?_ | refine blk_alloc ?_ _)); refine blk_put (cs := #[.int .i64 0,.int .i64 0,.int .i64 0,.int .i64 0,.int .i64 0,.int .i64 0,.int .i64 0,.slice none 0 0,.int .i64 0,.int .i64 0,.int .i64 0,.int .i64 0,.int .i64 0,.int .i64 0]) ?_ 0 _ rfl; (with_reducible repeat (first | refine blk_drewN ?_ _ | refine blk_drew ?_ | refine blk_alloc ?_ _)); exact BK227.out) Tryd.underlying60 rfl (by kernel_rfl)) rfl ?_
      exact ⟨_,by first | rfl | (simp [errW_none,errW_some] <;> rfl) | (simp [*,errW_none,errW_some] <;> rfl),by (with_reducible repeat (first | apply Kd.R_alloc | apply Kd.R_drewN | apply Kd.R_drew)); exact Kd.R_mono (Kd.R_far (p:=⟨gb227,13,none⟩) (Kd.R_far (p:=⟨gb227,12,none⟩) (Kd.R_far (p:=⟨gb227,11,none⟩) (Kd.R_far (p:=⟨gb227,10,none⟩) (Kd.R_far (p:=⟨gb227,9,none⟩) (Kd.R_far (p:=⟨gb227,8,none⟩) (Kd.R_far (p:=⟨gb227,7,none⟩) (Kd.R_far (p:=⟨gb227,6,none⟩) (Kd.R_far (p:=⟨gb227,5,none⟩) (Kd.R_far (p:=⟨gb227,4,none⟩) (Kd.R_far (p:=⟨gb227,3,none⟩) (Kd.R_far (p:=⟨gb227,2,none⟩) (Kd.R_far (p:=⟨gb227,1,none⟩) (Kd.R_far (p:=⟨gb227,0,none⟩) (Kd.R_types HO233.out BK227.out (by decide)) (fun _ hk => hk.2) (.int .i64 a0_0)) (fun _ hk => hk.2) (.int .i64 1)) (fun _ hk => hk.2) (.int .i64 a1)) (fun _ hk => hk.2) (.int .i64 a2)) (fun _ hk => hk.2) (.int .i64 a3)) (fun _ hk => hk.2) (.int .i64 0)) (fun _ hk => hk.2) (.int .i64 0)) (fun _ hk => hk.2) (.slice Ao24 y231.length co24)) (fun _ hk => hk.2) (.int .i64 0)) (fun _ hk => hk.2) (.int .i64 0)) (fun _ hk => hk.2) (.int .i64 0)) (fun _ hk => hk.2) (.int .i64 0)) (fun _ hk => hk.2) (.int .i64 0)) (fun _ hk => hk.2) (.int .i64 0)) (fun _ hk => trivial),bA⟩
     ·rw [if_neg c19] at H
      have c19b0 : (a0_1 == 0) = false := beq_eq_false_iff_ne.mpr c19
      have c19b1 : (a0_1 != 0) = true := bne_iff_ne.mpr c19
      replace H := Option.bind_eq_some_iff.mp H
      obtain ⟨⟨t234,t235,t236,t237,t238,t239,t240,t241,t244,t245,t246,t247,t248,t249⟩,A260,H⟩ := H
      try dsimp only at H
      have A26 := Aside0.mk A260
      clear A260
      simp only [Option.some.injEq,Prod.mk.injEq] at H
      obtain ⟨rfl,rfl,rfl,rfl,rfl,rfl,rfl,rfl,rfl,rfl,rfl,rfl,rfl,rfl,rfl⟩ := H
      have hnb27 := NB226_227.out
      have hnc27 := NB227_226.out
      have hcz28_0 : wc.cell? ⟨gb226,0,none⟩ = some (.int .i64 a0_0) := (blk_cell BK226.out 0).trans rfl
      have hcz28_1 : wc.cell? ⟨gb226,1,none⟩ = some (.int .i64 a0_1) := (blk_cell BK226.out 1).trans rfl
      have hcz28_2 : wc.cell? ⟨gb226,2,none⟩ = some (.int .i64 a0_2) := (blk_cell BK226.out 2).trans rfl
      have hcz28_3 : wc.cell? ⟨gb226,3,none⟩ = some (.int .i64 a0_3) := (blk_cell BK226.out 3).trans rfl
      have hcz28_4 : wc.cell? ⟨gb226,4,none⟩ = some (.int .i64 a0_4) := (blk_cell BK226.out 4).trans rfl
      have hcz28_5 : wc.cell? ⟨gb226,5,none⟩ = some (.int .i64 a0_5) := (blk_cell BK226.out 5).trans rfl
      have hcz28_6 : wc.cell? ⟨gb226,6,none⟩ = some (.int .i64 a0_6) := (blk_cell BK226.out 6).trans rfl
      have hcz28_7 : wc.cell? ⟨gb226,7,none⟩ = some (.slice A0_7 l0_7.length c0_7) := (blk_cell BK226.out 7).trans rfl
      have hcz28_8 : wc.cell? ⟨gb226,8,none⟩ = some (.int .i64 a0_8) := (blk_cell BK226.out 8).trans rfl
      have hcz28_9 : wc.cell? ⟨gb226,9,none⟩ = some (.int .i64 a0_9) := (blk_cell BK226.out 9).trans rfl
      have hcz28_10 : wc.cell? ⟨gb226,10,none⟩ = some (.int .i64 a0_10) := (blk_cell BK226.out 10).trans rfl
      have hcz28_11 : wc.cell? ⟨gb226,11,none⟩ = some (.int .i64 a0_11) := (blk_cell BK226.out 11).trans rfl
      have hcz28_12 : wc.cell? ⟨gb226,12,none⟩ = some (.int .i64 a0_12) := (blk_cell BK226.out 12).trans rfl
      have hcz28_13 : wc.cell? ⟨gb226,13,none⟩ = some (.int .i64 a0_13) := (blk_cell BK226.out 13).trans rfl
      have hfz28_0 := blk_frozen BK226.out 0
      have hfz28_1 := blk_frozen BK226.out 1
      have hfz28_2 := blk_frozen BK226.out 2
      have hfz28_3 := blk_frozen BK226.out 3
      have hfz28_4 := blk_frozen BK226.out 4
      have hfz28_5 := blk_frozen BK226.out 5
      have hfz28_6 := blk_frozen BK226.out 6
      have hfz28_7 := blk_frozen BK226.out 7
      have hfz28_8 := blk_frozen BK226.out 8
      have hfz28_9 := blk_frozen BK226.out 9
      have hfz28_10 := blk_frozen BK226.out 10
      have hfz28_11 := blk_frozen BK226.out 11
      have hfz28_12 := blk_frozen BK226.out 12
      have hfz28_13 := blk_frozen BK226.out 13
      go_wp2_with (first | ((with_reducible refine gate_callee (f:=69) rfl ?_); refine goesL_ (some 28) rfl rfl Tryd.func69 (by kernel_rfl) rfl #[.agg #[.int .i64 a0_0,.int .i64 a0_1,.int .i64 a0_2,.int .i64 a0_3,.int .i64 a0_4,.int .i64 a0_5,.int .i64 a0_6,.slice A0_7 l0_7.length c0_7,.int .i64 a0_8,.int .i64 a0_9,.int .i64 a0_10,.int .i64 a0_11,.int .i64 a0_12,.int .i64 a0_13]] rfl mA ?_; (with_reducible refine (spec_l10Own.calls a0_0 a0_1 a0_2 a0_3 a0_4 a0_5 a0_6 _ _ l0_7 a0_8 a0_9 a0_10 a0_11 a0_12 a0_13 t234 t235 t236 t237 t238 t239 t240 t241 t244 t245 t246 t247 t248 t249 _ ?side1 ?side2 A26.out).mono ?_); (case side1 => repeat (first | exact (Kd.C_below HR0_7.out HB.out) | (with_reducible refine Kd.C_alloc ?_ _) | (with_reducible refine Kd.C_drewN ?_ _) | (with_reducible refine Kd.C_drew ?_))); (case side2 => exact HC0_7.out); rintro e w29 ⟨v242,rfl,ho0,hb⟩; refine ⟨_,rfl,?_⟩; have n0_ := Aside0.mk (Kd.R_lower ho0 (below_size bA)); have n1_ := Aside0.mk (blk_below (g:=gb226) (o:=.cells #[.int .i64 a0_0,.int .i64 a0_1,.int .i64 a0_2,.int .i64 a0_3,.int .i64 a0_4,.int .i64 a0_5,.int .i64 a0_6,.slice A0_7 l0_7.length c0_7,.int .i64 a0_8,.int .i64 a0_9,.int .i64 a0_10,.int .i64 a0_11,.int .i64 a0_12,.int .i64 a0_13] 60 (0,0)) (kA BK226.out) hb); have n2_ := Aside0.mk (blk_below (g:=gb227) (o:=.cells #[.int .i64 0,.int .i64 0,.int .i64 0,.int .i64 0,.int .i64 0,.int .i64 0,.int .i64 0,.slice none 0 0,.int .i64 0,.int .i64 0,.int .i64 0,.int .i64 0,.int .i64 0,.int .i64 0] 60 (0,0)) (kA BK227.out) hb); have n3_ := Aside0.mk (below_step bA hb); clear BK226; clear BK227; clear HB; have HO243 := n0_; have BK226 := n1_; have BK227 := n2_; have HB := n3_; clear n0_ n1_ n2_ n3_; (try clear hb); (try clear hb2); (try clear hk); (try clear hi); (try clear ho0); have hcz30_0 : w29.cell? ⟨gb227,0,none⟩ = some (.int .i64 0) := (blk_cell BK227.out 0).trans rfl; have hcz30_1 : w29.cell? ⟨gb227,1,none⟩ = some (.int .i64 0) := (blk_cell BK227.out 1).trans rfl; have hcz30_2 : w29.cell? ⟨gb227,2,none⟩ = some (.int .i64 0) := (blk_cell BK227.out 2).trans rfl; have hcz30_3 : w29.cell? ⟨gb227,3,none⟩ = some (.int .i64 0) := (blk_cell BK227.out 3).trans rfl; have hcz30_4 : w29.cell? ⟨gb227,4,none⟩ = some (.int .i64 0) := (blk_cell BK227.out 4).trans rfl; have hcz30_5 : w29.cell? ⟨gb227,5,none⟩ = some (.int .i64 0) := (blk_cell BK227.out 5).trans rfl; have hcz30_6 : w29.cell? ⟨gb227,6,none⟩ = some (.int .i64 0) := (blk_cell BK227.out 6).trans rfl; have hcz30_7 : w29.cell? ⟨gb227,7,none⟩ = some (.slice none 0 0) := (blk_cell BK227.out 7).trans rfl; have hcz30_8 : w29.cell? ⟨gb227,8,none⟩ = some (.int .i64 0) := (blk_cell BK227.out 8).trans rfl; have hcz30_9 : w29.cell? ⟨gb227,9,none⟩ = some (.int .i64 0) := (blk_cell BK227.out 9).trans rfl; have hcz30_10 : w29.cell? ⟨gb227,10,none⟩ = some (.int .i64 0) := (blk_cell BK227.out 10).trans rfl; have hcz30_11 : w29.cell? ⟨gb227,11,none⟩ = some (.int .i64 0) := (blk_cell BK227.out 11).trans rfl; have hcz30_12 : w29.cell? ⟨gb227,12,none⟩ = some (.int .i64 0) := (blk_cell BK227.out 12).trans rfl; have hcz30_13 : w29.cell? ⟨gb227,13,none⟩ = some (.int .i64 0) := (blk_cell BK227.out 13).trans rfl; have hfz30_0 := blk_frozen BK227.out 0; have hfz30_1 := blk_frozen BK227.out 1; have hfz30_2 := blk_frozen BK227.out 2; have hfz30_3 := blk_frozen BK227.out 3; have hfz30_4 := blk_frozen BK227.out 4; have hfz30_5 := blk_frozen BK227.out 5; have hfz30_6 := blk_frozen BK227.out 6; have hfz30_7 := blk_frozen BK227.out 7; have hfz30_8 := blk_frozen BK227.out 8; have hfz30_9 := blk_frozen BK227.out 9; have hfz30_10 := blk_frozen BK227.out 10; have hfz30_11 := blk_frozen BK227.out 11; have hfz30_12 := blk_frozen BK227.out 12; have hfz30_13 := blk_frozen BK227.out 13; obtain ⟨Ao31,co31,eo31⟩ := Kd.R_slice HO243.out; subst eo31))
      refine bodyPost_ret (results_ct rfl _ _ gb227 60 #[.int .i64 t234,.int .i64 t235,.int .i64 t236,.int .i64 t237,.int .i64 t238,.int .i64 t239,.int .i64 t240,.slice Ao31 t241.length co31,.int .i64 t244,.int .i64 t245,.int .i64 t246,.int .i64 t247,.int .i64 t248,.int .i64 t249] (0,0) _ rfl (by (with_reducible repeat (first | refine blk_drewN ?_ _ | refine blk_drew ?_ | refine blk_alloc ?_ _)); refine blk_put (cs := #[.int .i64 t234,.int .i64 t235,.int .i64 t236,.int .i64 t237,.int .i64 t238,.int .i64 t239,.int .i64 t240,.slice Ao31 t241.length co31,.int .i64 t244,.int .i64 t245,.int .i64 t246,.int .i64 t247,.int .i64 t248,.int .i64 0]) ?_ 13 _ rfl; (with_reducible repeat (first | refine blk_drewN ?_ _ | refine blk_drew ?_ | refine blk_alloc ?_ _)); refine blk_put (cs := #[.int .i64 t234,.int .i64 t235,.int .i64 t236,.int .i64 t237,.int .i64 t238,.int .i64 t239,.int .i64 t240,.slice Ao31 t241.length co31,.int .i64 t244,.int .i64 t245,.int .i64 t246,.int .i64 t247,.int .i64 0,.int .i64 0]) ?_ 12 _ rfl; (with_reducible repeat (first | refine blk_drewN ?_ _ | refine blk_drew ?_ | refine blk_alloc ?_ _)); refine blk_put (cs := #[.int .i64 t234,.int .i64 t235,.int .i64 t236,.int .i64 t237,.int .i64 t238,.int .i64 t239,.int .i64 t240,.slice Ao31 t241.length co31,.int .i64 t244,.int .i64 t245,.int .i64 t246,.int .i64 0,.int .i64 0,.int .i64 0]) ?_ 11 _ rfl; (with_reducible repeat (first | refine blk_drewN ?_ _ | refine blk_drew ?_ | refine blk_alloc ?_ _)); refine blk_put (cs := #[.int .i64 t234,.int .i64 t235,.int .i64 t236,.int .i64 t237,.int .i64 t238,.int .i64 t239,.int .i64 t240,.slice Ao31 t241.length co31,.int .i64 t244,.int .i64 t245,.int .i64 0,.int .i64 0,.int .i64 0,.int .i64 0]) ?_ 10 _ rfl; (with_reducible repeat (first | refine blk_drewN ?_ _ | refine blk_drew ?_ | refine blk_alloc ?_ _)); refine blk_put (cs := #[.int .i64 t234,.int .i64 t235,.int .i64 t236,.int .i64 t237,.int .i64 t238,.int .i64 t239,.int .i64 t240,.slice Ao31 t241.length co31,.int .i64 t244,.int .i64 0,.int .i64 0,.int .i64 0,.int .i64 0,.int .i64 0]) ?_ 9 _ rfl; (with_reducible repeat (first | refine blk_drewN ?_ _ | refine blk_drew ?_ | refine blk_alloc ?_ _)); refine blk_put (cs := #[.int .i64 t234,.int .i64 t235,.int .i64 t236,.int .i64 t237,.int .i64 t238,.int .i64 t239,.int .i64 t240,.slice Ao31 t241.length co31,.int .i64 0,.int .i64 0,.int .i64 0,.int .i64 0,.int .i64 0,.int .i64 0]) ?_ 8 _ rfl; (with_reducible repeat (first | refine blk_drewN ?_ _ | refine blk_drew ?_ | refine blk_alloc ?_ _)); refine blk_put (cs := #[.int .i64 t234,.int .i64 t235,.int .i64 t236,.int .i64 t237,.int .i64 t238,.int .i64 t239,.int .i64 t240,.slice none 0 0,.int .i64 0,.int .i64 0,.int .i64 0,.int .i64 0,.int .i64 0,.int .i64 0]) ?_ 7 _ rfl; (with_reducible repeat (first | refine blk_drewN ?_ _ | refine blk_drew ?_ | refine blk_alloc ?_ _)); refine blk_put (cs := #[.int .i64 t234,.int .i64 t235,.int .i64 t236,.int .i64 t237,.int .i64 t238,.int .i64 t239,.int .i64 0,.slice none 0 0,.int .i64 0,.int .i64 0,.int .i64 0,.int .i64 0,.int .i64 0,.int .i64 0]) ?_ 6 _ rfl; (with_reducible repeat (first | refine blk_drewN ?_ _ | refine blk_drew ?_ | refine blk_alloc ?_ _)); refine blk_put (cs := #[.int .i64 t234,.int .i64 t235,.int .i64 t236,.int .i64 t237,.int .i64 t238,.int .i64 0,.int .i64 0,.slice none 0 0,.int .i64 0,.int .i64 0,.int .i64 0,.int .i64 0,.int .i64 0,.int .i64 0]) ?_ 5 _ rfl; (with_reducible repeat (first | refine blk_drewN ?_ _ | refine blk_drew ?_ | refine blk_alloc ?_ _)); refine blk_put (cs := #[.int .i64 t234,.int .i64 t235,.int .i64 t236,.int .i64 t237,.int .i64 0,.int .i64 0,.int .i64 0,.slice none 0 0,.int .i64 0,.int .i64 0,.int .i64 0,.int .i64 0,.int .i64 0,.int .i64 0]) ?_ 4 _ rfl; (with_reducible repeat (first | refine blk_drewN ?_ _ | refine blk_drew ?_ | refine blk_alloc ?_ _)); refine blk_put (cs := #[.int .i64 t234,.int .i64 t235,.int .i64 t236,.int .i64 0,.int .i64 0,.int .i64 0,.int .i64 0,.slice none 0 0,.int .i64 0,.int .i64 0,.int .i64 0,.int .i64 0,.int .i64 0,.int .i64 0]) ?_ 3 _ rfl; (with_reducible repeat (first | refine blk_drewN ?_ _ | refine blk_drew ?_ | refine blk_alloc ?_ _)); refine blk_put (cs := #[.int .i64 t234,.int .i64 t235,.int .i64 0,.int .i64 0,.int .i64 0,.int .i64 0,.int .i64 0,.slice none 0 0,.int .i64 0,.int .i64 0,.int .i64 0,.int .i64 0,.int .i64 0,.int .i64 0]) ?_ 2 _ rfl; (with_reducible repeat (first | refine blk_drewN ?_ _ | refine blk_drew ?_ | refine blk_alloc ?_ _)); refine blk_put (cs := #[.int .i64 t234,.int .i64 0,.int .i64 0,.int .i64 0,.int .i64 0,.int .i64 0,.int .i64 0,.slice none 0 0,.int .i64 0,.int .i64 0,.int .i64 0,.int .i64 0,.int .i64 0,.int .i64 0]) ?_ 1 _ rfl; (with_reducible repeat (first | refine blk_drewN ?_ _ | refine blk_drew ?_ | refine blk_alloc ?_ _)); refine blk_put (cs := #[.int .i64 0,.int .i64 0,.int .i64 0,.int .i64 0,.int .i64 0,.int .i64 0,.int .i64 0,.slice none 0 0,.int .i64 0,.int .i64 0,.int .i64 0,.int .i64 0,.int .i64 0,.int .i64 0]) ?_ 0 _ rfl; (with_reducible repeat (first | refine blk_drewN ?_ _ | refine blk_drew ?_ | refine blk_alloc ?_ _)); exact BK227.out) Tryd.underlying60 rfl (by kernel_rfl)) rfl ?_
      exact ⟨_,by first | rfl | (simp [errW_none,errW_some] <;> rfl) | (simp [*,errW_none,errW_some] <;> rfl),by (with_reducible repeat (first | apply Kd.R_alloc | apply Kd.R_drewN | apply Kd.R_drew)); exact Kd.R_mono (Kd.R_far (p:=⟨gb227,13,none⟩) (Kd.R_far (p:=⟨gb227,12,none⟩) (Kd.R_far (p:=⟨gb227,11,none⟩) (Kd.R_far (p:=⟨gb227,10,none⟩) (Kd.R_far (p:=⟨gb227,9,none⟩) (Kd.R_far (p:=⟨gb227,8,none⟩) (Kd.R_far (p:=⟨gb227,7,none⟩) (Kd.R_far (p:=⟨gb227,6,none⟩) (Kd.R_far (p:=⟨gb227,5,none⟩) (Kd.R_far (p:=⟨gb227,4,none⟩) (Kd.R_far (p:=⟨gb227,3,none⟩) (Kd.R_far (p:=⟨gb227,2,none⟩) (Kd.R_far (p:=⟨gb227,1,none⟩) (Kd.R_far (p:=⟨gb227,0,none⟩) (Kd.R_types HO243.out BK227.out (by decide)) (fun _ hk => hk.2) (.int .i64 t234)) (fun _ hk => hk.2) (.int .i64 t235)) (fun _ hk => hk.2) (.int .i64 t236)) (fun _ hk => hk.2) (.int .i64 t237)) (fun _ hk => hk.2) (.int .i64 t238)) (fun _ hk => hk.2) (.int .i64 t239)) (fun _ hk => hk.2) (.int .i64 t240)) (fun _ hk => hk.2) (.slice Ao31 t241.length co31)) (fun _ hk => hk.2) (.int .i64 t244)) (fun _ hk => hk.2) (.int .i64 t245)) (fun _ hk => hk.2) (.int .i64 t246)) (fun _ hk => hk.2) (.int .i64 t247)) (fun _ hk => hk.2) (.int .i64 t248)) (fun _ hk => hk.2) (.int .i64 t249)) (fun _ hk => trivial),bA⟩
 ·replace c6 := Bool.eq_false_iff.mpr c6
  subst c6
  rw [if_neg (show ¬ (false = true) by decide)] at H
  simp only [Option.some.injEq,Prod.mk.injEq] at H
  obtain ⟨rfl,rfl,rfl,rfl,rfl,rfl,rfl,rfl,rfl,rfl,rfl,rfl,rfl,rfl,rfl⟩ := H
  go_enter Tryd.func27,Tryd.ntmps27
  go_wp2_with (first | ((with_reducible refine gate_dst (N:=4) rfl ?_); refine box_event ?hg (N:=4) ?hd (cs := #[.int .i64 a0_0,.int .i64 a0_1,.int .i64 a0_2,.int .i64 a0_3,.int .i64 a0_4,.int .i64 a0_5,.int .i64 a0_6,.slice A0_7 l0_7.length c0_7,.int .i64 a0_8,.int .i64 a0_9,.int .i64 a0_10,.int .i64 a0_11,.int .i64 a0_12,.int .i64 a0_13]) (t:=60) ?hr ?_; (case hd => rfl); (case hg => rfl); (case hr => first | (go_simp; done) | (go_simp; rfl)); intro gb226 hg w32 hbox hb; have n0_ := Aside0.mk (below_step bA hb); have n1_ := Aside0.mk (hbox); have n2_ := Aside0.mk ((by rw [hg]; exact (below_size bA) : w.heap.size ≤ gb226)); have n3_ := Aside0.mk ((by rw [hg]; exact (below_size bA) : w.heap.size ≤ gb226)); clear HB; have HB := n0_; have BK226 := n1_; have GW226 := n2_; have GE226 := n3_; clear n0_ n1_ n2_ n3_; clear hb hbox hg) | ((with_reducible refine gate_dst (N:=8) rfl ?_); refine box_event ?hg (N:=8) ?hd (cs := #[.int .i64 0,.int .i64 0,.int .i64 0,.int .i64 0,.int .i64 0,.int .i64 0,.int .i64 0,.slice none 0 0,.int .i64 0,.int .i64 0,.int .i64 0,.int .i64 0,.int .i64 0,.int .i64 0]) (t:=60) ?hr ?_; (case hd => rfl); (case hg => rfl); (case hr => first | (go_simp; done) | (go_simp; rfl)); intro gb227 hg w33 hbox hb; have n0_ := Aside0.mk (blk_below (g:=gb226) (o:=.cells #[.int .i64 a0_0,.int .i64 a0_1,.int .i64 a0_2,.int .i64 a0_3,.int .i64 a0_4,.int .i64 a0_5,.int .i64 a0_6,.slice A0_7 l0_7.length c0_7,.int .i64 a0_8,.int .i64 a0_9,.int .i64 a0_10,.int .i64 a0_11,.int .i64 a0_12,.int .i64 a0_13] 60 (0,0)) (kA BK226.out) hb); have n1_ := Aside0.mk (below_step bA hb); have n2_ := Aside0.mk (hbox); have n3_ := Aside0.mk ((by rw [hg]; exact (below_size bA) : w.heap.size ≤ gb227)); have n4_ := Aside0.mk ((by rw [hg]; exact (below_size bA) : w.heap.size ≤ gb227)); have n5_ := Aside0.mk ((by rw [hg]; exact Nat.ne_of_lt (blk_lt (g:=gb226) (o:=.cells #[.int .i64 a0_0,.int .i64 a0_1,.int .i64 a0_2,.int .i64 a0_3,.int .i64 a0_4,.int .i64 a0_5,.int .i64 a0_6,.slice A0_7 l0_7.length c0_7,.int .i64 a0_8,.int .i64 a0_9,.int .i64 a0_10,.int .i64 a0_11,.int .i64 a0_12,.int .i64 a0_13] 60 (0,0)) (kA BK226.out)) : gb226 ≠ gb227)); have n6_ := Aside0.mk ((by rw [hg]; exact Nat.ne_of_gt (blk_lt (g:=gb226) (o:=.cells #[.int .i64 a0_0,.int .i64 a0_1,.int .i64 a0_2,.int .i64 a0_3,.int .i64 a0_4,.int .i64 a0_5,.int .i64 a0_6,.slice A0_7 l0_7.length c0_7,.int .i64 a0_8,.int .i64 a0_9,.int .i64 a0_10,.int .i64 a0_11,.int .i64 a0_12,.int .i64 a0_13] 60 (0,0)) (kA BK226.out)) : gb227 ≠ gb226)); clear BK226; clear HB; have BK226 := n0_; have HB := n1_; have BK227 := n2_; have GW227 := n3_; have GE227 := n4_; have NB226_227 := n5_; have NB227_226 := n6_; clear n0_ n1_ n2_ n3_ n4_ n5_ n6_; clear hb hbox hg; have hnb34 := NB226_227.out; have hnc34 := NB227_226.out; have hcz35_0 : w33.cell? ⟨gb226,0,none⟩ = some (.int .i64 a0_0) := (blk_cell BK226.out 0).trans rfl; have hcz35_1 : w33.cell? ⟨gb226,1,none⟩ = some (.int .i64 a0_1) := (blk_cell BK226.out 1).trans rfl; have hcz35_2 : w33.cell? ⟨gb226,2,none⟩ = some (.int .i64 a0_2) := (blk_cell BK226.out 2).trans rfl; have hcz35_3 : w33.cell? ⟨gb226,3,none⟩ = some (.int .i64 a0_3) := (blk_cell BK226.out 3).trans rfl; have hcz35_4 : w33.cell? ⟨gb226,4,none⟩ = some (.int .i64 a0_4) := (blk_cell BK226.out 4).trans rfl; have hcz35_5 : w33.cell? ⟨gb226,5,none⟩ = some (.int .i64 a0_5) := (blk_cell BK226.out 5).trans rfl; have hcz35_6 : w33.cell? ⟨gb226,6,none⟩ = some (.int .i64 a0_6) := (blk_cell BK226.out 6).trans rfl; have hcz35_7 : w33.cell? ⟨gb226,7,none⟩ = some (.slice A0_7 l0_7.length c0_7) := (blk_cell BK226.out 7).trans rfl; have hcz35_8 : w33.cell? ⟨gb226,8,none⟩ = some (.int .i64 a0_8) := (blk_cell BK226.out 8).trans rfl; have hcz35_9 : w33.cell? ⟨gb226,9,none⟩ = some (.int .i64 a0_9) := (blk_cell BK226.out 9).trans rfl; have hcz35_10 : w33.cell? ⟨gb226,10,none⟩ = some (.int .i64 a0_10) := (blk_cell BK226.out 10).trans rfl; have hcz35_11 : w33.cell? ⟨gb226,11,none⟩ = some (.int .i64 a0_11) := (blk_cell BK226.out 11).trans rfl; have hcz35_12 : w33.cell? ⟨gb226,12,none⟩ = some (.int .i64 a0_12) := (blk_cell BK226.out 12).trans rfl; have hcz35_13 : w33.cell? ⟨gb226,13,none⟩ = some (.int .i64 a0_13) := (blk_cell BK226.out 13).trans rfl; have hfz35_0 := blk_frozen BK226.out 0; have hfz35_1 := blk_frozen BK226.out 1; have hfz35_2 := blk_frozen BK226.out 2; have hfz35_3 := blk_frozen BK226.out 3; have hfz35_4 := blk_frozen BK226.out 4; have hfz35_5 := blk_frozen BK226.out 5; have hfz35_6 := blk_frozen BK226.out 6; have hfz35_7 := blk_frozen BK226.out 7; have hfz35_8 := blk_frozen BK226.out 8; have hfz35_9 := blk_frozen BK226.out 9; have hfz35_10 := blk_frozen BK226.out 10; have hfz35_11 := blk_frozen BK226.out 11; have hfz35_12 := blk_frozen BK226.out 12; have hfz35_13 := blk_frozen BK226.out 13) | ((with_reducible refine gate_callee (f:=23) rfl ?_); refine goesL_ (some 11) rfl rfl Tryd.func23 (by kernel_rfl) rfl #[.agg #[.int .i64 a0_0,.int .i64 a0_1,.int .i64 a0_2,.int .i64 a0_3,.int .i64 a0_4,.int .i64 a0_5,.int .i64 a0_6,.slice A0_7 l0_7.length c0_7,.int .i64 a0_8,.int .i64 a0_9,.int .i64 a0_10,.int .i64 a0_11,.int .i64 a0_12,.int .i64 a0_13]] rfl mA ?_; (with_reducible refine (spec_ReaderOK.calls k a0_0 a0_1 a0_2 a0_3 a0_4 a0_5 a0_6 _ _ l0_7 a0_8 a0_9 a0_10 a0_11 a0_12 a0_13 false _ ?side1 ?side2 A5.out).mono ?_); (case side1 => repeat (first | exact (Kd.C_below HR0_7.out HB.out) | (with_reducible refine Kd.C_alloc ?_ _) | (with_reducible refine Kd.C_drewN ?_ _) | (with_reducible refine Kd.C_drew ?_))); (case side2 => exact HC0_7.out); rintro e w36 ⟨rfl,hb⟩; refine ⟨_,rfl,?_⟩; have n0_ := Aside0.mk (blk_below (g:=gb226) (o:=.cells #[.int .i64 a0_0,.int .i64 a0_1,.int .i64 a0_2,.int .i64 a0_3,.int .i64 a0_4,.int .i64 a0_5,.int .i64 a0_6,.slice A0_7 l0_7.length c0_7,.int .i64 a0_8,.int .i64 a0_9,.int .i64 a0_10,.int .i64 a0_11,.int .i64 a0_12,.int .i64 a0_13] 60 (0,0)) (kA BK226.out) hb); have n1_ := Aside0.mk (blk_below (g:=gb227) (o:=.cells #[.int .i64 0,.int .i64 0,.int .i64 0,.int .i64 0,.int .i64 0,.int .i64 0,.int .i64 0,.slice none 0 0,.int .i64 0,.int .i64 0,.int .i64 0,.int .i64 0,.int .i64 0,.int .i64 0] 60 (0,0)) (kA BK227.out) hb); have n2_ := Aside0.mk (below_step bA hb); clear BK226; clear BK227; clear HB; have BK226 := n0_; have BK227 := n1_; have HB := n2_; clear n0_ n1_ n2_; (try clear hb); (try clear hb2); (try clear hk); (try clear hi); have hcz37_0 : w36.cell? ⟨gb227,0,none⟩ = some (.int .i64 0) := (blk_cell BK227.out 0).trans rfl; have hcz37_1 : w36.cell? ⟨gb227,1,none⟩ = some (.int .i64 0) := (blk_cell BK227.out 1).trans rfl; have hcz37_2 : w36.cell? ⟨gb227,2,none⟩ = some (.int .i64 0) := (blk_cell BK227.out 2).trans rfl; have hcz37_3 : w36.cell? ⟨gb227,3,none⟩ = some (.int .i64 0) := (blk_cell BK227.out 3).trans rfl; have hcz37_4 : w36.cell? ⟨gb227,4,none⟩ = some (.int .i64 0) := (blk_cell BK227.out 4).trans rfl; have hcz37_5 : w36.cell? ⟨gb227,5,none⟩ = some (.int .i64 0) := (blk_cell BK227.out 5).trans rfl; have hcz37_6 : w36.cell? ⟨gb227,6,none⟩ = some (.int .i64 0) := (blk_cell BK227.out 6).trans rfl; have hcz37_7 : w36.cell? ⟨gb227,7,none⟩ = some (.slice none 0 0) := (blk_cell BK227.out 7).trans rfl; have hcz37_8 : w36.cell? ⟨gb227,8,none⟩ = some (.int .i64 0) := (blk_cell BK227.out 8).trans rfl; have hcz37_9 : w36.cell? ⟨gb227,9,none⟩ = some (.int .i64 0) := (blk_cell BK227.out 9).trans rfl; have hcz37_10 : w36.cell? ⟨gb227,10,none⟩ = some (.int .i64 0) := (blk_cell BK227.out 10).trans rfl; have hcz37_11 : w36.cell? ⟨gb227,11,none⟩ = some (.int .i64 0) := (blk_cell BK227.out 11).trans rfl; have hcz37_12 : w36.cell? ⟨gb227,12,none⟩ = some (.int .i64 0) := (blk_cell BK227.out 12).trans rfl; have hcz37_13 : w36.cell? ⟨gb227,13,none⟩ = some (.int .i64 0) := (blk_cell BK227.out 13).trans rfl; have hfz37_0 := blk_frozen BK227.out 0; have hfz37_1 := blk_frozen BK227.out 1; have hfz37_2 := blk_frozen BK227.out 2; have hfz37_3 := blk_frozen BK227.out 3; have hfz37_4 := blk_frozen BK227.out 4; have hfz37_5 := blk_frozen BK227.out 5; have hfz37_6 := blk_frozen BK227.out 6; have hfz37_7 := blk_frozen BK227.out 7; have hfz37_8 := blk_frozen BK227.out 8; have hfz37_9 := blk_frozen BK227.out 9; have hfz37_10 := blk_frozen BK227.out 10; have hfz37_11 := blk_frozen BK227.out 11; have hfz37_12 := blk_frozen BK227.out 12; have hfz37_13 := blk_frozen BK227.out 13))
  refine bodyPost_ret (results_ct rfl _ _ gb227 60 #[.int .i64 0,.int .i64 0,.int .i64 0,.int .i64 0,.int .i64 0,.int .i64 0,.int .i64 0,.slice none 0 0,.int .i64 0,.int .i64 0,.int .i64 0,.int .i64 0,.int .i64 0,.int .i64 0] (0,0) _ rfl (by (with_reducible repeat (first | refine blk_drewN ?_ _ | refine blk_drew ?_ | refine blk_alloc ?_ _)); refine blk_put (cs := #[.int .i64 0,.int .i64 0,.int .i64 0,.int .i64 0,.int .i64 0,.int .i64 0,.int .i64 0,.slice none 0 0,.int .i64 0,.int .i64 0,.int .i64 0,.int .i64 0,.int .i64 0,.int .i64 0]) ?_ 13 _ rfl; (with_reducible repeat (first | refine blk_drewN ?_ _ | refine blk_drew ?_ | refine blk_alloc ?_ _)); refine blk_put (cs := #[.int .i64 0,.int .i64 0,.int .i64 0,.int .i64 0,.int .i64 0,.int .i64 0,.int .i64 0,.slice none 0 0,.int .i64 0,.int .i64 0,.int .i64 0,.int .i64 0,.int .i64 0,.int .i64 0]) ?_ 12 _ rfl; (with_reducible repeat (first | refine blk_drewN ?_ _ | refine blk_drew ?_ | refine blk_alloc ?_ _)); refine blk_put (cs := #[.int .i64 0,.int .i64 0,.int .i64 0,.int .i64 0,.int .i64 0,.int .i64 0,.int .i64 0,.slice none 0 0,.int .i64 0,.int .i64 0,.int .i64 0,.int .i64 0,.int .i64 0,.int .i64 0]) ?_ 11 _ rfl; (with_reducible repeat (first | refine blk_drewN ?_ _ | refine blk_drew ?_ | refine blk_alloc ?_ _)); refine blk_put (cs := #[.int .i64 0,.int .i64 0,.int .i64 0,.int .i64 0,.int .i64 0,.int .i64 0,.int .i64 0,.slice none 0 0,.int .i64 0,.int .i64 0,.int .i64 0,.int .i64 0,.int .i64 0,.int .i64 0]) ?_ 10 _ rfl; (with_reducible repeat (first | refine blk_drewN ?_ _ | refine blk_drew ?_ | refine blk_alloc ?_ _)); refine blk_put (cs := #[.int .i64 0,.int .i64 0,.int .i64 0,.int .i64 0,.int .i64 0,.int .i64 0,.int .i64 0,.slice none 0 0,.int .i64 0,.int .i64 0,.int .i64 0,.int .i64 0,.int .i64 0,.int .i64 0]) ?_ 9 _ rfl; (with_reducible repeat (first | refine blk_drewN ?_ _ | refine blk_drew ?_ | refine blk_alloc ?_ _)); refine blk_put (cs := #[.int .i64 0,.int .i64 0,.int .i64 0,.int .i64 0,.int .i64 0,.int .i64 0,.int .i64 0,.slice none 0 0,.int .i64 0,.int .i64 0,.int .i64 0,.int .i64 0,.int .i64 0,.int .i64 0]) ?_ 8 _ rfl; (with_reducible repeat (first | refine blk_drewN ?_ _ | refine blk_drew ?_ | refine blk_alloc ?_ _)); refine blk_put (cs := #[.int .i64 0,.int .i64 0,.int .i64 0,.int .i64 0,.int .i64 0,.int .i64 0,.int .i64 0,.slice none 0 0,.int .i64 0,.int .i64 0,.int .i64 0,.int .i64 0,.int .i64 0,.int .i64 0]) ?_ 7 _ rfl; (with_reducible repeat (first | refine blk_drewN ?_ _ | refine blk_drew ?_ | refine blk_alloc ?_ _)); refine blk_put (cs := #[.int .i64 0,.int .i64 0,.int .i64 0,.int .i64 0,.int .i64 0,.int .i64 0,.int .i64 0,.slice none 0 0,.int .i64 0,.int .i64 0,.int .i64 0,.int .i64 0,.int .i64 0,.int .i64 0]) ?_ 6 _ rfl; (with_reducible repeat (first | refine blk_drewN ?_ _ | refine blk_drew ?_ | refine blk_alloc ?_ _)); refine blk_put (cs := #[.int .i64 0,.int .i64 0,.int .i64 0,.int .i64 0,.int .i64 0,.int .i64 0,.int .i64 0,.slice none 0 0,.int .i64 0,.int .i64 0,.int .i64 0,.int .i64 0,.int .i64 0,.int .i64 0]) ?_ 5 _ rfl; (with_reducible repeat (first | refine blk_drewN ?_ _ | refine blk_drew ?_ | refine blk_alloc ?_ _)); refine blk_put (cs := #[.int .i64 0,.int .i64 0,.int .i64 0,.int .i64 0,.int .i64 0,.int .i64 0,.int .i64 0,.slice none 0 0,.int .i64 0,.int .i64 0,.int .i64 0,.int .i64 0,.int .i64 0,.int .i64 0]) ?_ 4 _ rfl; (with_reducible repeat (first | refine blk_drewN ?_ _ | refine blk_drew ?_ | refine blk_alloc ?_ _)); refine blk_put (cs := #[.int .i64 0,.int .i64 0,.int .i64 0,.int .i64 0,.int .i64 0,.int .i64 0,.int .i64 0,.slice none 0 0,.int .i64 0,.int .i64 0,.int .i64 0,.int .i64 0,.int .i64 0,.int .i64 0]) ?_ 3 _ rfl; (with_reducible repeat (first | refine blk_drewN ?_ _ | refine blk_drew ?_ | refine blk_alloc ?_ _)); refine blk_put (cs := #[.int .i64 0,.int .i64 0,.int .i64 0,.int .i64 0,.int .i64 0,.int .i64 0,.int .i64 0,.slice none 0 0,.int .i64 0,.int .i64 0,.int .i64 0,.int .i64 0,.int .i64 0,.int .i64 0]) ?_ 2 _ rfl; (with_reducible repeat (first | refine blk_drewN ?_ _ | refine blk_drew ?_ | refine blk_alloc ?_ _)); refine blk_put (cs := #[.int .i64 0,.int .i64 0,.int .i64 0,.int .i64 0,.int .i64 0,.int .i64 0,.int .i64 0,.slice none 0 0,.int .i64 0,.int .i64 0,.int .i64 0,.int .i64 0,.int .i64 0,.int .i64 0]) ?_ 1 _ rfl; (with_reducible repeat (first | refine blk_drewN ?_ _ | refine blk_drew ?_ | refine blk_alloc ?_ _)); refine blk_put (cs := #[.int .i64 0,.int .i64 0,.int .i64 0,.int .i64 0,.int .i64 0,.int .i64 0,.int .i64 0,.slice none 0 0,.int .i64 0,.int .i64 0,.int .i64 0,.int .i64 0,.int .i64 0,.int .i64 0]) ?_ 0 _ rfl; (with_reducible repeat (first | refine blk_drewN ?_ _ | refine blk_drew ?_ | refine blk_alloc ?_ _)); exact BK227.out) Tryd.underlying60 rfl (by kernel_rfl)) rfl ?_
  exact ⟨_,by first | rfl | (simp [errW_none,errW_some] <;> rfl) | (simp [*,errW_none,errW_some] <;> rfl),by first | exact Kd.R_nil _ _ _ _ _ | exact Kd.N_nil _ _ _ _ _ | exact Kd.V_nil _ _ _ _ _ | exact Kd.Q_nil _ _ _ _ _ | exact Kd.S_nil _ _ _ _ _,bA⟩

/-! ### impl_within: function 54 -/
def impl_within.f (a0 : Int) (a1 : Int) (a2 : Int) : Option (Bool) := if a1 ≤ a0 then (some (decide (a0 ≤ a2))) else (some false)
set_option maxHeartbeats 8000000 in
set_option maxRecDepth 100000 in
theorem impl_within.calls (a0 : Int) (a1 : Int) (a2 : Int) (r : Bool) (w : World) (h : impl_within.f a0 a1 a2 = some r) :
  Calls Tryd.prog 54 #[.int .i64 a0,.int .i64 a1,.int .i64 a2] w fun e w' => e = .returned (.bool r) ∧ Drawn0 w w' := by
 have H : (if a1 ≤ a0 then (some (decide (a0 ≤ a2))) else (some false)) = some r := h
 clear h
 by_cases c4 : a1 ≤ a0
 ·rw [if_pos c4] at H
  have c4b0 : decide (a1 ≤ a0) = true := decide_eq_true c4
  clear c4
  obtain rfl := Option.some.inj H
  go_enter Tryd.func54,Tryd.ntmps54
  go_wp2
  go_ret
  exact ⟨by first | rfl | (simp; done) | (simp [*]; done),by repeat (first | exact Drawn0.refl _ | apply Drawn0.step)⟩
 ·rw [if_neg c4] at H
  have c4b0 : decide (a1 ≤ a0) = false := decide_eq_false c4
  clear c4
  obtain rfl := Option.some.inj H
  go_enter Tryd.func54,Tryd.ntmps54
  go_wp2
  go_ret
  exact ⟨by first | rfl | (simp; done) | (simp [*]; done),by repeat (first | exact Drawn0.refl _ | apply Drawn0.step)⟩

/-! ### impl_isId: function 53 -/
def impl_isId.f (a0 : Int) : Option (Bool) := (impl_within.f a0 0 9).bind fun t250 => (some t250)
set_option maxHeartbeats 8000000 in
set_option maxRecDepth 100000 in
theorem impl_isId.calls (a0 : Int) (r : Bool) (w : World) (h : impl_isId.f a0 = some r) :
  Calls Tryd.prog 53 #[.int .i64 a0] w fun e w' => e = .returned (.bool r) ∧ Drawn0 w w' := by
 have H : ((impl_within.f a0 0 9).bind fun t250 => (some t250)) = some r := h
 clear h
 replace H := Option.bind_eq_some_iff.mp H
 obtain ⟨t250,A20,H⟩ := H
 try dsimp only at H
 have A2 := Aside0.mk A20
 clear A20
 obtain rfl := Option.some.inj H
 go_enter Tryd.func53,Tryd.ntmps53
 go_wp2_with (first | ((with_reducible refine gate_callee (f:=54) rfl ?_); refine goesL_ (some 4) rfl rfl Tryd.func54 (by kernel_rfl) rfl #[.int .i64 a0,.int .i64 0,.int .i64 9] rfl mA ?_; (with_reducible refine (impl_within.calls a0 0 9 t250 _ A2.out).mono ?_); rintro e w' ⟨rfl,⟨nd,rfl⟩⟩; refine ⟨_,rfl,?_⟩))
 go_ret
 exact ⟨by first | rfl | (simp; done) | (simp [*]; done),by repeat (first | exact Drawn0.refl _ | apply Drawn0.step)⟩

/-! ### impl_isRange: function 65 -/
def impl_isRange.f (a0 : Int) (a1 : Int) : Option (Bool) := if 0 ≤ a0 then (if a0 ≤ a1 then (some (decide (a1 ≤ 100000))) else (some false)) else (some false)
set_option maxHeartbeats 8000000 in
set_option maxRecDepth 100000 in
theorem impl_isRange.calls (a0 : Int) (a1 : Int) (r : Bool) (w : World) (h : impl_isRange.f a0 a1 = some r) :
  Calls Tryd.prog 65 #[.int .i64 a0,.int .i64 a1] w fun e w' => e = .returned (.bool r) ∧ Drawn0 w w' := by
 have H : (if 0 ≤ a0 then (if a0 ≤ a1 then (some (decide (a1 ≤ 100000))) else (some false)) else (some false)) = some r := h
 clear h
 by_cases c3 : 0 ≤ a0
 ·rw [if_pos c3] at H
  have c3b0 : decide (0 ≤ a0) = true := decide_eq_true c3
  clear c3
  by_cases c4 : a0 ≤ a1
  ·rw [if_pos c4] at H
   have c4b0 : decide (a0 ≤ a1) = true := decide_eq_true c4
   clear c4
   obtain rfl := Option.some.inj H
   go_enter Tryd.func65,Tryd.ntmps65
   go_wp2
   go_ret
   exact ⟨by first | rfl | (simp; done) | (simp [*]; done),by repeat (first | exact Drawn0.refl _ | apply Drawn0.step)⟩
  ·rw [if_neg c4] at H
   have c4b0 : decide (a0 ≤ a1) = false := decide_eq_false c4
   clear c4
   obtain rfl := Option.some.inj H
   go_enter Tryd.func65,Tryd.ntmps65
   go_wp2
   go_ret
   exact ⟨by first | rfl | (simp; done) | (simp [*]; done),by repeat (first | exact Drawn0.refl _ | apply Drawn0.step)⟩
 ·rw [if_neg c3] at H
  have c3b0 : decide (0 ≤ a0) = false := decide_eq_false c3
  clear c3
  obtain rfl := Option.some.inj H
  go_enter Tryd.func65,Tryd.ntmps65
  go_wp2
  go_ret
  exact ⟨by first | rfl | (simp; done) | (simp [*]; done),by repeat (first | exact Drawn0.refl _ | apply Drawn0.step)⟩

/-! ### impl_dataPrefixes: function 103 -/
def impl_dataPrefixes.f  : Option (List ByteArray) := some (([(⟨#[114,97,119,47]⟩ : ByteArray),(⟨#[116,49,47]⟩ : ByteArray),(⟨#[116,50,47]⟩ : ByteArray)] : List ByteArray))
set_option maxHeartbeats 8000000 in
set_option maxRecDepth 100000 in
theorem impl_dataPrefixes.calls  (r : List ByteArray) (w : World) (h : impl_dataPrefixes.f  = some r) :
  Calls Tryd.prog 103 #[] w fun e w' => ∃ v0_ : Value,e = .returned (v0_) ∧ Kd.R Kd.string 9 w' w.heap.size (fun _ => True) v0_ r ∧ Below w.heap.size w w' := by
 have HB := Aside0.mk (Below.refl w.heap.size w)
 have H : (some (([(⟨#[114,97,119,47]⟩ : ByteArray),(⟨#[116,49,47]⟩ : ByteArray),(⟨#[116,50,47]⟩ : ByteArray)] : List ByteArray))) = some r := h
 clear h
 obtain ⟨y251,hy251⟩ : ∃ y_ : List ByteArray,y_ = (([(⟨#[114,97,119,47]⟩ : ByteArray),(⟨#[116,49,47]⟩ : ByteArray),(⟨#[116,50,47]⟩ : ByteArray)] : List ByteArray)) := ⟨_,rfl⟩
 replace H : (some y251) = some r := by first | (rw [hy251]; with_reducible exact H) | (have H2_ := (Option.bind_some _ _).symm.trans H; rw [hy251]; with_reducible exact H2_) | (have H2_ := (Option.bind_some _ _).symm.trans H; with_reducible exact H2_) | with_reducible exact H | (rw [hy251]; exact H) | exact H
 have Ny251 := Aside0.mk hy251
 clear hy251
 obtain rfl := Option.some.inj H
 go_enter Tryd.func103,Tryd.ntmps103
 go_wp2_with (first | ((with_reducible refine gate_dst (N:=1) rfl ?_); refine Kd.R_lit Kd.string _ 9 ?hg (N:=1) ?hd (xs := ([(⟨#[114,97,119,47]⟩ : ByteArray),(⟨#[116,49,47]⟩ : ByteArray),(⟨#[116,50,47]⟩ : ByteArray)] : List ByteArray)) (inner := [.string (⟨#[114,97,119,47]⟩ : ByteArray),.string (⟨#[116,49,47]⟩ : ByteArray),.string (⟨#[116,50,47]⟩ : ByteArray)]) (ok := fun _ => True) (okp := fun _ => True) ?hr ?hp (fun _ hk => hk) trivial (Below.refl _ _) (Nat.le_refl _) (by simp) ?_; (case hd => rfl); (case hg => rfl); (case hr => first | (go_simp; done) | (go_simp; rfl)); (case hp => exact (Reps.one (show Kd.M Kd.string _ _ _ (⟨#[114,97,119,47]⟩ : ByteArray) [.string (⟨#[114,97,119,47]⟩ : ByteArray)] from rfl) (Reps.one (show Kd.M Kd.string _ _ _ (⟨#[116,49,47]⟩ : ByteArray) [.string (⟨#[116,49,47]⟩ : ByteArray)] from rfl) (Reps.one (show Kd.M Kd.string _ _ _ (⟨#[116,50,47]⟩ : ByteArray) [.string (⟨#[116,50,47]⟩ : ByteArray)] from rfl) (Reps.none _ _))))); intro v252 w1 ho2 hb hg_ hnew_; clear hg_ hnew_; (first | rw [← Ny251.out] at ho2 | (simp only [Int.reduceToNat] at ho2; rw [← Ny251.out] at ho2)); have n0_ := Aside0.mk (Kd.R_lower ho2 (below_size bA)); have n1_ := Aside0.mk (below_step bA hb); clear HB; have HO253 := n0_; have HB := n1_; clear n0_ n1_; clear hb ho2))
 go_ret
 exact ⟨_,by first | rfl | (simp [errW_none,errW_some] <;> rfl) | (simp [*,errW_none,errW_some] <;> rfl),rA HO253.out,bA⟩

/-! ### strings_CutPrefix: function 104 (by hand) -/
def strings_CutPrefix.f (a0 : ByteArray) (a1 : ByteArray) : Option (ByteArray × Bool) := some (⟨(Lib.trimPrefix a0.data.toList a1.data.toList).toArray⟩,Lib.hasPrefix a0.data.toList a1.data.toList)
theorem strings_CutPrefix.calls (a0 : ByteArray) (a1 : ByteArray) (r1 : ByteArray) (r2 : Bool) (w : World) (h : strings_CutPrefix.f a0 a1 = some (r1,r2)) :
  Calls Tryd.prog 104 #[.string a0,.string a1] w fun e w' => e = .returned (.tuple #[.string r1,.bool r2]) ∧ Below w.heap.size w w' := by
 unfold strings_CutPrefix.f at h
 obtain ⟨rfl,rfl⟩ := Prod.mk.inj (Option.some.inj h)
 exact (Tryd.strings_CutPrefix a0 a1 w).mono fun e w' ⟨he,hw⟩ => ⟨he,hw ▸ Below.refl _ _⟩

/-! ### impl_isSix: function 117 -/
def impl_isSix.f (a0 : Int) : Option (Bool) := (impl_within.f a0 0 999999).bind fun t254 => (some t254)
set_option maxHeartbeats 8000000 in
set_option maxRecDepth 100000 in
theorem impl_isSix.calls (a0 : Int) (r : Bool) (w : World) (h : impl_isSix.f a0 = some r) :
  Calls Tryd.prog 117 #[.int .i64 a0] w fun e w' => e = .returned (.bool r) ∧ Drawn0 w w' := by
 have H : ((impl_within.f a0 0 999999).bind fun t254 => (some t254)) = some r := h
 clear h
 replace H := Option.bind_eq_some_iff.mp H
 obtain ⟨t254,A20,H⟩ := H
 try dsimp only at H
 have A2 := Aside0.mk A20
 clear A20
 obtain rfl := Option.some.inj H
 go_enter Tryd.func117,Tryd.ntmps117
 go_wp2_with (first | ((with_reducible refine gate_callee (f:=54) rfl ?_); refine goesL_ (some 4) rfl rfl Tryd.func54 (by kernel_rfl) rfl #[.int .i64 a0,.int .i64 0,.int .i64 999999] rfl mA ?_; (with_reducible refine (impl_within.calls a0 0 999999 t254 _ A2.out).mono ?_); rintro e w' ⟨rfl,⟨nd,rfl⟩⟩; refine ⟨_,rfl,?_⟩))
 go_ret
 exact ⟨by first | rfl | (simp; done) | (simp [*]; done),by repeat (first | exact Drawn0.refl _ | apply Drawn0.step)⟩

/-! ### strconv_Itoa: function 129 (by hand) -/
def strconv_Itoa.f (a0 : Int) : Option ByteArray := if -9223372036854775808 ≤ a0 ∧ a0 ≤ 9223372036854775807 then some ⟨(Lib.itoa a0).toArray⟩ else none
theorem strconv_Itoa.calls (a0 : Int) (r : ByteArray) (w : World) (hV : Vars w) (h : strconv_Itoa.f a0 = some r) :
  Calls Tryd.prog 129 #[.int .i64 a0] w fun e w' => e = .returned (.string r) ∧ Below w.heap.size w w' := by
 unfold strconv_Itoa.f at h
 split at h
 ·rename_i hb
  obtain rfl := Option.some.inj h
  exact (Tryd.strconv_Itoa a0 hb.1 hb.2 w hV.tab).mono fun e w' ⟨he,k,os,hw⟩ => ⟨he,hw ▸ below_grow_ w k os⟩
 ·cases h

/-! ### impl_six: function 118 -/
def impl_six.f (a0 : Int) : Option (ByteArray) := (strconv_Itoa.f (wrap64 (1000000 + a0))).bind fun t255 => (if 1 ≤ (t255.size : Int) then (some (t255.extract 1 t255.size)) else (none))
set_option maxHeartbeats 8000000 in
set_option maxRecDepth 100000 in
theorem impl_six.calls (a0 : Int) (r : ByteArray) (w : World) (hV : Vars w) (h : impl_six.f a0 = some r) :
  Calls Tryd.prog 118 #[.int .i64 a0] w fun e w' => e = .returned (.string r) ∧ Below w.heap.size w w' := by
 have HV := Aside0.mk hV
 clear hV
 have HB := Aside0.mk (Below.refl w.heap.size w)
 have H : ((strconv_Itoa.f (wrap64 (1000000 + a0))).bind fun t255 => (if 1 ≤ (t255.size : Int) then (some (t255.extract 1 t255.size)) else (none))) = some r := h
 clear h
 replace H := Option.bind_eq_some_iff.mp H
 obtain ⟨t255,A20,H⟩ := H
 try dsimp only at H
 have A2 := Aside0.mk A20
 clear A20
 by_cases c3 : 1 ≤ (t255.size : Int)
 ·rw [if_pos c3] at H
  have c3b0 := eq_true c3
  have c3b1 : decide (1 ≤ (t255.size : Int)) = true := decide_eq_true c3
  clear c3
  obtain rfl := Option.some.inj H
  go_enter Tryd.func118,Tryd.ntmps118
  go_wp2_with (first | ((with_reducible refine gate_callee (f:=129) rfl ?_); refine goesL_ (some 5) rfl rfl Tryd.func129 (by kernel_rfl) rfl #[.int .i64 (wrap64 (1000000 + a0))] rfl mA ?_; (with_reducible refine (strconv_Itoa.calls (wrap64 (1000000 + a0)) t255 _ ?side1 A2.out).mono ?_); (case side1 => exact HV.out.below bA); rintro e w4 ⟨rfl,hb⟩; refine ⟨_,rfl,?_⟩; have n0_ := Aside0.mk (below_step bA hb); clear HB; have HB := n0_; clear n0_; (try clear hb); (try clear hb2); (try clear hk); (try clear hi)))
  go_ret
  exact ⟨by first | rfl | (simp only [i64_w,i32_w] <;> rfl) | (simp [errW_none,errW_some] <;> rfl) | (simp [*,errW_none,errW_some] <;> rfl),bA⟩
 ·rw [if_neg c3] at H
  exact absurd H (by simp)

/-! ### impl_readSix: function 105 (by hand) -/
def impl_readSix.f (a0 : ByteArray) : Option (Int × Bool) := if a0.size ≤ 281474976710656 then (match Lib.atoiAll a0.data.toList with
 | .ok v => if 0 ≤ v ∧ v ≤ 999999 then (impl_six.f v).bind fun x => some (v,x.toList == a0.toList) else some (v,false)
 | .range => some (Lib.atoiSat a0.data.toList,false)
 | _ => some (0,false)) else none
set_option maxHeartbeats 8000000 in
set_option maxRecDepth 100000 in
theorem impl_readSix.calls (a0 : ByteArray) (r1 : Int) (r2 : Bool) (w : World) (hV : Vars w) (h : impl_readSix.f a0 = some (r1,r2)) :
  Calls Tryd.prog 105 #[.string a0] w fun e w' => e = .returned (.tuple #[.int .i64 r1,.bool r2]) ∧ Below w.heap.size w w' := by
 unfold impl_readSix.f at h
 split at h
 ·rename_i hsz
  rcases hA : Lib.atoiAll a0.data.toList with v | _ | _
  rotate_left
  ·rw [hA] at h
   obtain ⟨rfl,rfl⟩ := Prod.mk.inj (Option.some.inj h)
   obtain ⟨ev,hv,hev⟩ := hV.syn
   have hc := Aside0.mk (Tryd.strconv_Atoi_syntax a0 hsz (by rw [hA]; exact True.intro) ev w hv hev)
   clear hV hv hev hA hsz h
   go_enter Tryd.func105,Tryd.ntmps105
   go_wp2_with (go_at_call 116; refine hc.out.mono ?_; rintro e w1 ⟨N,rfl,hN,hcell,hb⟩; clear hN hcell; have HB := Aside0.mk hb; clear hb)
   go_ret2
   exact ⟨rfl,HB.out⟩
  ·rw [hA] at h
   obtain ⟨rfl,rfl⟩ := Prod.mk.inj (Option.some.inj h)
   obtain ⟨ev,hv,hev⟩ := hV.rng
   have hc := Aside0.mk (Tryd.strconv_Atoi_range a0 hsz hA ev w hv hev)
   clear hV hv hev hA hsz h
   generalize Lib.atoiSat a0.data.toList = z at hc
   go_enter Tryd.func105,Tryd.ntmps105
   go_wp2_with (go_at_call 116; refine hc.out.mono ?_; rintro e w1 ⟨N,rfl,hN,hcell,hb⟩; clear hN hcell; have HB := Aside0.mk hb; clear hb)
   go_ret2
   exact ⟨rfl,HB.out⟩
  ·rw [hA] at h
   have hc := Aside0.mk ((Tryd.strconv_Atoi_ok a0 (by omega) v hA w).mono fun e w' ⟨he,hw⟩ => (⟨he,by rcases hw with rfl | ⟨t,rfl⟩; exact Below.refl _ _; exact Lib.bytesWorld_below w _ t⟩ : e = _ ∧ Below w.heap.size w w'))
   have HV := Aside0.mk hV
   clear hV hA hsz
   by_cases hs : 0 ≤ v ∧ v ≤ 999999
   ·simp only [if_pos hs] at h
    obtain ⟨x,hx,h⟩ := Option.bind_eq_some_iff.mp h
    obtain ⟨rfl,rfl⟩ := Prod.mk.inj (Option.some.inj h)
    have HX := Aside0.mk hx
    have hW : Aside0 (∀ W,Calls Tryd.prog 117 #[.int .i64 v] W fun e w' => e = .returned (.bool true) ∧ Drawn0 W w') := ⟨fun W => impl_isSix.calls v _ W (by unfold impl_isSix.f impl_within.f; simp [hs.1,hs.2])⟩
    have hs := Aside0.mk hs
    clear hx h
    go_enter Tryd.func105,Tryd.ntmps105
    go_wp2_with (first
     | (go_at_call 116; refine hc.out.mono ?_; rintro e w1 ⟨rfl,hb⟩; have HB := Aside0.mk hb; clear hb)
     | (go_at_call 117; refine (hW.out _).mono ?_; rintro e w3 ⟨rfl,⟨nd,rfl⟩⟩; have HB1 := Aside0.mk (Drawn0.below_trans_ HB.out nd))
     | (go_at_call 118; refine (impl_six.calls v x _ (HV.out.below HB1.out) HX.out).mono ?_; rintro e w2 ⟨rfl,hb⟩; have HB2 := Aside0.mk (HB1.out.trans (hb.mono HB1.out.size) : Below w.heap.size w w2); clear hb))
    go_ret2
    exact ⟨rfl,HB2.out⟩
   ·simp only [if_neg hs] at h
    obtain ⟨rfl,rfl⟩ := Prod.mk.inj (Option.some.inj h)
    have hW : Aside0 (∀ W,Calls Tryd.prog 117 #[.int .i64 v] W fun e w' => e = .returned (.bool false) ∧ Drawn0 W w') := ⟨fun W => impl_isSix.calls v _ W (by unfold impl_isSix.f impl_within.f; by_cases h0 : 0 ≤ v <;> simp [h0]; omega)⟩
    have hs := Aside0.mk hs
    clear h
    go_enter Tryd.func105,Tryd.ntmps105
    go_wp2_with (first
     | (go_at_call 116; refine hc.out.mono ?_; rintro e w1 ⟨rfl,hb⟩; have HB := Aside0.mk hb; clear hb)
     | (go_at_call 117; refine (hW.out _).mono ?_; rintro e w3 ⟨rfl,⟨nd,rfl⟩⟩; have HB1 := Aside0.mk (Drawn0.below_trans_ HB.out nd)))
    go_ret2
    exact ⟨rfl,HB1.out⟩
 ·cases h

/-! ### impl_readDataKey: function 82 -/
mutual
def impl_readDataKey.l0 : Nat → ByteArray → List ByteArray → Int → Int → Option (Int × Int × Int × Bool)
 | 0,_,_,_,_ => none
 | k + 1,x0,x14,x15,x16 => if x16 < x15 then (if 0 ≤ x16 then (if x16 < (x14.length : Int) then ((strings_CutPrefix.f x0 (rdOf ByteArray.empty x14 x16)).bind fun bt260 => (if bt260.2 = true then (if (bt260.1.size : Int) = 13 then (if 6 < (bt260.1.size : Int) then (impl_readDataKey.j1 k x0 x16 bt260.1 x14 x15 x16 ((bt bt260.1 6) == 45)) else (none)) else (impl_readDataKey.j1 k x0 x16 bt260.1 x14 x15 x16 false)) else (impl_readDataKey.j1 k x0 x16 bt260.1 x14 x15 x16 false))) else (none)) else (none)) else (some (0,0,0,false))
def impl_readDataKey.j1 : Nat → ByteArray → Int → ByteArray → List ByteArray → Int → Int → Bool → Option (Int × Int × Int × Bool)
 | 0,_,_,_,_,_,_,_ => none
 | k + 1,x0,x6,x8,x14,x15,x16,x37 => if x37 = true then (if 0 ≤ 6 then (if 6 ≤ (x8.size : Int) then ((impl_readSix.f (x8.extract 0 6)).bind fun bt262 => (if 7 ≤ (x8.size : Int) then ((impl_readSix.f (x8.extract 7 x8.size)).bind fun bt264 => (if bt262.2 = true then (if bt264.2 = true then (some (x6,bt262.1,bt264.1,true)) else (impl_readDataKey.l0 k x0 x14 x15 (wrap64 (x16 + 1)))) else (impl_readDataKey.l0 k x0 x14 x15 (wrap64 (x16 + 1))))) else (none))) else (none)) else (none)) else (impl_readDataKey.l0 k x0 x14 x15 (wrap64 (x16 + 1)))
end
def impl_readDataKey.f (k : Nat) (a0 : ByteArray) : Option (Int × Int × Int × Bool) := (impl_dataPrefixes.f).bind fun t256 => (impl_readDataKey.l0 k a0 t256 (t256.length : Int) 0)
theorem impl_readDataKey.mono_l : ∀ k,(∀ y0 y1 y2 y3,LeO (impl_readDataKey.l0 k y0 y1 y2 y3) (impl_readDataKey.l0 (k + 1) y0 y1 y2 y3)) ∧ (∀ y0 y1 y2 y3 y4 y5 y6,LeO (impl_readDataKey.j1 k y0 y1 y2 y3 y4 y5 y6) (impl_readDataKey.j1 (k + 1) y0 y1 y2 y3 y4 y5 y6))
 | 0 => ⟨fun _ _ _ _ r h => by simp [impl_readDataKey.l0] at h,fun _ _ _ _ _ _ _ r h => by simp [impl_readDataKey.j1] at h⟩
 | k + 1 => by
  obtain ⟨ih0,ih1⟩ := impl_readDataKey.mono_l k
  refine ⟨?_,?_⟩
  ·intro y0 y1 y2 y3
   unfold impl_readDataKey.l0
   repeat' first
   | (with_reducible exact ih0 _ _ _ _)
   | (with_reducible exact ih1 _ _ _ _ _ _ _)
   | (with_reducible exact LeO.refl _)
   | (with_reducible exact LeO.none _)
   | (with_reducible refine LeO.ite ?_ ?_)
   | (with_reducible refine LeO.bind ?_ (fun _ => ?_))
   | exact ih0 _ _ _ _
   | exact ih1 _ _ _ _ _ _ _
   | exact LeO.none _
   | refine LeO.ite ?_ ?_
   | refine LeO.bind ?_ (fun _ => ?_)
  ·intro y0 y1 y2 y3 y4 y5 y6
   unfold impl_readDataKey.j1
   repeat' first
   | (with_reducible exact ih0 _ _ _ _)
   | (with_reducible exact ih1 _ _ _ _ _ _ _)
   | (with_reducible exact LeO.refl _)
   | (with_reducible exact LeO.none _)
   | (with_reducible refine LeO.ite ?_ ?_)
   | (with_reducible refine LeO.bind ?_ (fun _ => ?_))
   | exact ih0 _ _ _ _
   | exact ih1 _ _ _ _ _ _ _
   | exact LeO.none _
   | refine LeO.ite ?_ ?_
   | refine LeO.bind ?_ (fun _ => ?_)
theorem impl_readDataKey.mono : ∀ a0 k,LeO (impl_readDataKey.f k a0) (impl_readDataKey.f (k + 1) a0) := by
 intro a0 k
 obtain ⟨ih0,ih1⟩ := impl_readDataKey.mono_l k
 unfold impl_readDataKey.f
 repeat' first
   | (with_reducible exact ih0 _ _ _ _)
   | (with_reducible exact ih1 _ _ _ _ _ _ _)
   | (with_reducible exact LeO.refl _)
   | (with_reducible exact LeO.none _)
   | (with_reducible refine LeO.ite ?_ ?_)
   | (with_reducible refine LeO.bind ?_ (fun _ => ?_))
   | exact ih0 _ _ _ _
   | exact ih1 _ _ _ _ _ _ _
   | exact LeO.none _
   | refine LeO.ite ?_ ?_
   | refine LeO.bind ?_ (fun _ => ?_)
set_option maxHeartbeats 8000000 in
set_option maxRecDepth 100000 in
theorem impl_readDataKey.calls (k : Nat) (a0 : ByteArray) (r1 : Int) (r2 : Int) (r3 : Int) (r4 : Bool) (w : World) (hV : Vars w) (h : impl_readDataKey.f k a0 = some (r1,r2,r3,r4)) :
  Calls Tryd.prog 82 #[.string a0] w fun e w' => e = .returned (.tuple #[.int .i64 r1,.int .i64 r2,.int .i64 r3,.bool r4]) ∧ Below w.heap.size w w' := by
 have HV := Aside0.mk hV
 clear hV
 have HB := Aside0.mk (Below.refl w.heap.size w)
 have H : ((impl_dataPrefixes.f).bind fun t256 => (impl_readDataKey.l0 k a0 t256 (t256.length : Int) 0)) = some (r1,r2,r3,r4) := h
 clear h
 replace H := Option.bind_eq_some_iff.mp H
 obtain ⟨t256,A20,H⟩ := H
 try dsimp only at H
 have A2 := Aside0.mk A20
 clear A20
 have H' := Aside0.mk H
 clear H
 go_enter Tryd.func82,Tryd.ntmps82
 go_wp2_with (first | ((with_reducible refine gate_callee (f:=103) rfl ?_); refine goesL_ (some 14) rfl rfl Tryd.func103 (by kernel_rfl) rfl #[] rfl mA ?_; (with_reducible refine (impl_dataPrefixes.calls  t256 _ A2.out).mono ?_); rintro e w3 ⟨v257,rfl,ho0,hb⟩; refine ⟨_,rfl,?_⟩; have n0_ := Aside0.mk (Kd.R_lower ho0 (below_size bA)); have n1_ := Aside0.mk (below_step bA hb); clear HB; have HO258 := n0_; have HB := n1_; clear n0_ n1_; (try clear hb); (try clear hb2); (try clear hk); (try clear hi); (try clear ho0); obtain ⟨Ao4,co4,eo4⟩ := Kd.R_slice HO258.out; subst eo4))
 go_loopg [16] k (fun kq v16 w' => ∃ (x16_1 : Int),v16 = .int .i64 x16_1 ∧ Aside0 (impl_readDataKey.l0 kq a0 t256 (t256.length : Int) x16_1 = some (r1,r2,r3,r4)) ∧ Aside0 (kq ≤ k) ∧ Aside0 (Kd.R Kd.string 9 w' w.heap.size (fun _ => True) (.slice Ao4 t256.length co4) t256) ∧ Aside0 (Below w.heap.size w w'))
 case atStart => exact ⟨(0),(by first | rfl | (simp; done) | (simp [*]; done)),H',⟨Nat.le_refl _⟩,⟨rA HO258.out⟩,⟨bA⟩⟩
 case round =>
  clear H'
  try clear c1
  try clear p2
  obtain ⟨x16_1,rfl,HA,HK1,HO_14,HB⟩ := hrel
  cases gk with
  | zero => exact absurd HA.out (by simp [impl_readDataKey.l0])
  | succ k1 =>
   have H := HA.out
   clear HA
   simp only [impl_readDataKey.l0] at H
   by_cases c5 : x16_1 < (t256.length : Int)
   ·rw [if_pos c5] at H
    have c5b0 : decide (x16_1 < (t256.length : Int)) = true := decide_eq_true c5
    clear c5
    by_cases c6 : 0 ≤ x16_1
    ·rw [if_pos c6] at H
     have c6b0 : decide (0 ≤ x16_1) = true := decide_eq_true c6
     clear c6
     by_cases c7 : x16_1 < (t256.length : Int)
     ·rw [if_pos c7] at H
      have c7b0 : decide (x16_1 < (t256.length : Int)) = true := decide_eq_true c7
      clear c7
      replace H := Option.bind_eq_some_iff.mp H
      obtain ⟨⟨t260,t261⟩,A80,H⟩ := H
      try dsimp only at H
      have A8 := Aside0.mk A80
      clear A80
      have HC9 := Aside0.mk H
      clear H
      have p259 : 0 ≤ (x16_1 : Int) := of_decide_eq_true (by first | (with_reducible assumption) | assumption)
      have q259 : x16_1 < (t256.length : Int) := of_decide_eq_true (by first | (with_reducible assumption) | assumption)
      obtain ⟨ad259,e259,hx259_0⟩ := Kd.at_string (Kd.R_reads' HO_14.out).2.2 x16_1 p259 q259
      cases e259
      replace p259 := eq_true p259
      replace q259 := eq_true q259
      go_upto_region 5 with (first | ((with_reducible refine gate_callee (f:=104) rfl ?_); refine goesL_ (some 24) rfl rfl Tryd.func104 (by kernel_rfl) rfl #[.string a0,.string (rdOf ByteArray.empty t256 x16_1)] rfl mA ?_; (with_reducible refine (strings_CutPrefix.calls a0 (rdOf ByteArray.empty t256 x16_1) t260 t261 _ A8.out).mono ?_); rintro e w10 ⟨rfl,hb⟩; refine ⟨_,rfl,?_⟩; have n0_ := Aside0.mk (Kd.R_below (rA HO_14.out) hb); have n1_ := Aside0.mk (below_step bA hb); clear HO_14; clear HB; have HO_14 := n0_; have HB := n1_; clear n0_ n1_; (try clear hb); (try clear hb2); (try clear hk); (try clear hi)))
      (try simp only [Act.put,setIfInBounds_toArray,set_cons_zero,set_cons_succ])
      go_cut [37] (fun v37 wc => ∃ (kq : Nat) (x37_8 : Bool),v37 = .bool x37_8 ∧ Aside0 (impl_readDataKey.j1 kq a0 x16_1 t260 t256 (t256.length : Int) x16_1 x37_8 = some (r1,r2,r3,r4)) ∧ Aside0 (kq ≤ k1) ∧ Aside0 (Kd.R Kd.string 9 wc w.heap.size (fun _ => True) (.slice (some ad259) t256.length co4) t256) ∧ Aside0 (Below w.heap.size w wc))
      case first =>
       have H := HC9.out
       clear HC9
       by_cases c11 : t261 = true
       ·subst c11
        rw [if_pos rfl] at H
        by_cases c12 : (t260.size : Int) = 13
        ·rw [if_pos c12] at H
         have c12b0 : ((t260.size : Int) == 13) = true := beq_iff_eq.mpr c12
         have c12b1 : ((t260.size : Int) != 13) = false := bne_eq_false_iff_eq.mpr c12
         clear c12
         (first | rw [c12b0] | (simp only [i64_w,i32_w]; rw [c12b0]) | skip)
         by_cases c13 : 6 < (t260.size : Int)
         ·rw [if_pos c13] at H
          have c13b0 : decide (6 < (t260.size : Int)) = true := decide_eq_true c13
          have c13b1 : decide (6 < t260.size) = true := decide_eq_true (by omega)
          clear c13
          have H' := Aside0.mk H
          clear H
          have p14 : 0 ≤ (6 : Int) := (by omega)
          have q14 : 6 < t260.size := (by have : (6 : Int) < (t260.size : Int) := of_decide_eq_true (by first | (with_reducible assumption) | assumption); omega)
          have hx14 : ∀ h : 6 < t260.size,((t260[6]'h).toNat : Int) = bt t260 6 := bt_at t260 6
          clear p14
          have qi14 : (6 < (t260.size : Int)) = True := eq_true (of_decide_eq_true (by first | (with_reducible assumption) | assumption))
          replace q14 := eq_true q14
          go_wp2
          go_meet
          case rel => exact ⟨_,(((bt t260 6) == 45)),(by first | rfl | (simp; done) | (simp [*]; done)),H',⟨by have := HK1.out; first | omega | exact Nat.le_refl _⟩,⟨rA HO_14.out⟩,⟨bA⟩⟩
         ·rw [if_neg c13] at H
          exact absurd H (by simp)
        ·rw [if_neg c12] at H
         have c12b0 : ((t260.size : Int) == 13) = false := beq_eq_false_iff_ne.mpr c12
         have c12b1 : ((t260.size : Int) != 13) = true := bne_iff_ne.mpr c12
         (first | rw [c12b0] | (simp only [i64_w,i32_w]; rw [c12b0]) | skip)
         have H' := Aside0.mk H
         clear H
         go_wp2
         go_meet
         case rel => exact ⟨_,(false),(by first | rfl | (simp; done) | (simp [*]; done)),H',⟨by have := HK1.out; first | omega | exact Nat.le_refl _⟩,⟨rA HO_14.out⟩,⟨bA⟩⟩
       ·replace c11 := Bool.eq_false_iff.mpr c11
        subst c11
        rw [if_neg (show ¬ (false = true) by decide)] at H
        have H' := Aside0.mk H
        clear H
        go_wp2
        go_meet
        case rel => exact ⟨_,(false),(by first | rfl | (simp; done) | (simp [*]; done)),H',⟨by have := HK1.out; first | omega | exact Nat.le_refl _⟩,⟨rA HO_14.out⟩,⟨bA⟩⟩
      case rest =>
       clear HC9
       try clear c1
       try clear p1
       try clear q1
       try clear hx1
       try clear qi1
       try clear p2
       try clear q2
       try clear hx2
       try clear c5
       try clear c5b0
       try clear c6
       try clear c6b0
       try clear c7
       try clear c7b0
       try clear c8
       try clear c10
       try clear c11
       try clear c12
       try clear c12b0
       try clear c12b1
       try clear c13
       try clear c13b0
       try clear c13b1
       try clear p14
       try clear q14
       try clear hx14
       try clear qi14
       try clear hx259_0
       try clear p14
       try clear p2
       try clear p259
       try clear q14
       try clear q259
       obtain ⟨kq,x37_8,rfl,HA,HJ8,HO_14,HB⟩ := hcut
       cases kq with
       | zero => exact absurd HA.out (by simp [impl_readDataKey.j1])
       | succ kj8 =>
        have H := HA.out
        clear HA
        simp only [impl_readDataKey.j1] at H
        by_cases c15 : x37_8 = true
        ·subst c15
         rw [if_pos rfl] at H
         by_cases c16 : 0 ≤ 6
         ·rw [if_pos c16] at H
          have c16b0 := eq_true c16
          have c16b1 : decide (0 ≤ 6) = true := decide_eq_true c16
          clear c16
          by_cases c17 : 6 ≤ (t260.size : Int)
          ·rw [if_pos c17] at H
           have c17b0 := eq_true c17
           have c17b1 : decide (6 ≤ (t260.size : Int)) = true := decide_eq_true c17
           clear c17
           replace H := Option.bind_eq_some_iff.mp H
           obtain ⟨⟨t262,t263⟩,A180,H⟩ := H
           try dsimp only at H
           have A18 := Aside0.mk A180
           clear A180
           by_cases c19 : 7 ≤ (t260.size : Int)
           ·rw [if_pos c19] at H
            have c19b0 := eq_true c19
            have c19b1 : decide (7 ≤ (t260.size : Int)) = true := decide_eq_true c19
            clear c19
            replace H := Option.bind_eq_some_iff.mp H
            obtain ⟨⟨t264,t265⟩,A200,H⟩ := H
            try dsimp only at H
            have A20 := Aside0.mk A200
            clear A200
            by_cases c21 : t263 = true
            ·subst c21
             rw [if_pos rfl] at H
             by_cases c22 : t265 = true
             ·subst c22
              rw [if_pos rfl] at H
              simp only [Option.some.injEq,Prod.mk.injEq] at H
              obtain ⟨rfl,rfl,rfl,rfl⟩ := H
              go_wp2_with (first | ((with_reducible refine gate_callee (f:=105) rfl ?_); refine goesL_ (some 41) rfl rfl Tryd.func105 (by kernel_rfl) rfl #[.string (t260.extract 0 6)] rfl mA ?_; (with_reducible refine (impl_readSix.calls (t260.extract 0 6) t262 true _ ?side1 A18.out).mono ?_); (case side1 => exact HV.out.below bA); rintro e w23 ⟨rfl,hb⟩; refine ⟨_,rfl,?_⟩; have n0_ := Aside0.mk (Kd.R_below (rA HO_14.out) hb); have n1_ := Aside0.mk (below_step bA hb); clear HO_14; clear HB; have HO_14 := n0_; have HB := n1_; clear n0_ n1_; (try clear hb); (try clear hb2); (try clear hk); (try clear hi)) | ((with_reducible refine gate_callee (f:=105) rfl ?_); refine goesL_ (some 47) rfl rfl Tryd.func105 (by kernel_rfl) rfl #[.string (t260.extract 7 t260.size)] rfl mA ?_; (with_reducible refine (impl_readSix.calls (t260.extract 7 t260.size) t264 true _ ?side1 A20.out).mono ?_); (case side1 => exact HV.out.below bA); rintro e w24 ⟨rfl,hb⟩; refine ⟨_,rfl,?_⟩; have n0_ := Aside0.mk (Kd.R_below (rA HO_14.out) hb); have n1_ := Aside0.mk (below_step bA hb); clear HO_14; clear HB; have HO_14 := n0_; have HB := n1_; clear n0_ n1_; (try clear hb); (try clear hb2); (try clear hk); (try clear hi)))
              refine bodyPost_ret (results_list (rs := [.tmp 2,.tmp 3,.tmp 4,.tmp 5]) rfl (by simp) (.tmp (.tmp (.tmp (.tmp .nil))))) rfl ?_
              exact ⟨by first | rfl | (simp only [i64_w,i32_w] <;> rfl) | (simp [errW_none,errW_some] <;> rfl) | (simp [*,errW_none,errW_some] <;> rfl),bA⟩
             ·replace c22 := Bool.eq_false_iff.mpr c22
              subst c22
              rw [if_neg (show ¬ (false = true) by decide)] at H
              have H' := Aside0.mk H
              clear H
              go_wp2_with (first | ((with_reducible refine gate_callee (f:=105) rfl ?_); refine goesL_ (some 41) rfl rfl Tryd.func105 (by kernel_rfl) rfl #[.string (t260.extract 0 6)] rfl mA ?_; (with_reducible refine (impl_readSix.calls (t260.extract 0 6) t262 true _ ?side1 A18.out).mono ?_); (case side1 => exact HV.out.below bA); rintro e w25 ⟨rfl,hb⟩; refine ⟨_,rfl,?_⟩; have n0_ := Aside0.mk (Kd.R_below (rA HO_14.out) hb); have n1_ := Aside0.mk (below_step bA hb); clear HO_14; clear HB; have HO_14 := n0_; have HB := n1_; clear n0_ n1_; (try clear hb); (try clear hb2); (try clear hk); (try clear hi)) | ((with_reducible refine gate_callee (f:=105) rfl ?_); refine goesL_ (some 47) rfl rfl Tryd.func105 (by kernel_rfl) rfl #[.string (t260.extract 7 t260.size)] rfl mA ?_; (with_reducible refine (impl_readSix.calls (t260.extract 7 t260.size) t264 false _ ?side1 A20.out).mono ?_); (case side1 => exact HV.out.below bA); rintro e w26 ⟨rfl,hb⟩; refine ⟨_,rfl,?_⟩; have n0_ := Aside0.mk (Kd.R_below (rA HO_14.out) hb); have n1_ := Aside0.mk (below_step bA hb); clear HO_14; clear HB; have HO_14 := n0_; have HB := n1_; clear n0_ n1_; (try clear hb); (try clear hb2); (try clear hk); (try clear hi)))
              go_roundg kj8
              case measure => have := HK1.out; have := HJ8.out; omega
              case rel => exact ⟨(wrap64 (x16_1 + 1)),(by first | rfl | (simp; done) | (simp [*]; done)),H',⟨by have := HK1.out; have := HJ8.out; omega⟩,⟨rA HO_14.out⟩,⟨bA⟩⟩
            ·replace c21 := Bool.eq_false_iff.mpr c21
             subst c21
             rw [if_neg (show ¬ (false = true) by decide)] at H
             have H' := Aside0.mk H
             clear H
             go_wp2_with (first | ((with_reducible refine gate_callee (f:=105) rfl ?_); refine goesL_ (some 41) rfl rfl Tryd.func105 (by kernel_rfl) rfl #[.string (t260.extract 0 6)] rfl mA ?_; (with_reducible refine (impl_readSix.calls (t260.extract 0 6) t262 false _ ?side1 A18.out).mono ?_); (case side1 => exact HV.out.below bA); rintro e w27 ⟨rfl,hb⟩; refine ⟨_,rfl,?_⟩; have n0_ := Aside0.mk (Kd.R_below (rA HO_14.out) hb); have n1_ := Aside0.mk (below_step bA hb); clear HO_14; clear HB; have HO_14 := n0_; have HB := n1_; clear n0_ n1_; (try clear hb); (try clear hb2); (try clear hk); (try clear hi)) | ((with_reducible refine gate_callee (f:=105) rfl ?_); refine goesL_ (some 47) rfl rfl Tryd.func105 (by kernel_rfl) rfl #[.string (t260.extract 7 t260.size)] rfl mA ?_; (with_reducible refine (impl_readSix.calls (t260.extract 7 t260.size) t264 t265 _ ?side1 A20.out).mono ?_); (case side1 => exact HV.out.below bA); rintro e w28 ⟨rfl,hb⟩; refine ⟨_,rfl,?_⟩; have n0_ := Aside0.mk (Kd.R_below (rA HO_14.out) hb); have n1_ := Aside0.mk (below_step bA hb); clear HO_14; clear HB; have HO_14 := n0_; have HB := n1_; clear n0_ n1_; (try clear hb); (try clear hb2); (try clear hk); (try clear hi)))
             go_roundg kj8
             case measure => have := HK1.out; have := HJ8.out; omega
             case rel => exact ⟨(wrap64 (x16_1 + 1)),(by first | rfl | (simp; done) | (simp [*]; done)),H',⟨by have := HK1.out; have := HJ8.out; omega⟩,⟨rA HO_14.out⟩,⟨bA⟩⟩
           ·rw [if_neg c19] at H
            exact absurd H (by simp)
          ·rw [if_neg c17] at H
           exact absurd H (by simp)
         ·rw [if_neg c16] at H
          exact absurd H (by simp)
        ·replace c15 := Bool.eq_false_iff.mpr c15
         subst c15
         rw [if_neg (show ¬ (false = true) by decide)] at H
         have H' := Aside0.mk H
         clear H
         go_wp2
         go_roundg kj8
         case measure => have := HK1.out; have := HJ8.out; omega
         case rel => exact ⟨(wrap64 (x16_1 + 1)),(by first | rfl | (simp; done) | (simp [*]; done)),H',⟨by have := HK1.out; have := HJ8.out; omega⟩,⟨rA HO_14.out⟩,⟨bA⟩⟩
     ·rw [if_neg c7] at H
      exact absurd H (by simp)
    ·rw [if_neg c6] at H
     exact absurd H (by simp)
   ·rw [if_neg c5] at H
    have c5b0 : decide (x16_1 < (t256.length : Int)) = false := decide_eq_false c5
    clear c5
    simp only [Option.some.injEq,Prod.mk.injEq] at H
    obtain ⟨rfl,rfl,rfl,rfl⟩ := H
    go_wp2
    refine bodyPost_ret (results_list (rs := [.tmp 2,.tmp 3,.tmp 4,.tmp 5]) rfl (by simp) (.tmp (.tmp (.tmp (.tmp .nil))))) rfl ?_
    exact ⟨by first | rfl | (simp only [i64_w,i32_w] <;> rfl) | (simp [errW_none,errW_some] <;> rfl) | (simp [*,errW_none,errW_some] <;> rfl),bA⟩

end Go.Proofs.YtleifhnoaaphmaaDoor.XFnExactAskReader
