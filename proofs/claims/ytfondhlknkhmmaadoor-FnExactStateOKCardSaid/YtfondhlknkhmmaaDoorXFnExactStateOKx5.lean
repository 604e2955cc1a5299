-- Printed by this session's own program wip/tools/xprint.py, which widens the kit's print. Not trusted: Lean checks it.
import Derived.Test.YtfondhlknkhmmaaDoorXFnExactStateOKx0
namespace Go.Proofs.YtfondhlknkhmmaaDoor.XFnExactStateOK
open List (setIfInBounds_toArray set_cons_zero set_cons_succ)
open Go.RowKit Go.Proofs.YtfondhlknkhmmaaDoorW.PrintWords Go.Proofs.YtfondhlknkhmmaaDoorW.PrintLast Go.Proofs.YtfondhlknkhmmaaDoorW.PrintMore
attribute [local go_sem] max2_int min2_int max_two min_two max_three min_three max_four min_four   -- for this text's walks alone
set_option linter.unusedVariables false
set_option linter.unusedSimpArgs false

/-! ### laws_toEntry: function 49 -/
def laws_toEntry.f (a0_0 : Int) (a0_1 : Int) (a0_2 : Int) (a0_3 : ByteArray) : Option (Int × Int × Int × ByteArray) := some (a0_0,a0_1,a0_2,a0_3)
set_option maxHeartbeats 8000000 in
set_option maxRecDepth 100000 in
theorem laws_toEntry.calls (a0_0 : Int) (a0_1 : Int) (a0_2 : Int) (a0_3 : ByteArray) (r1 : Int) (r2 : Int) (r3 : Int) (r4 : ByteArray) (w : World) (h : laws_toEntry.f a0_0 a0_1 a0_2 a0_3 = some (r1,r2,r3,r4)) :
  Calls Tryd.prog 49 #[.agg #[.int .i64 a0_0,.int .i64 a0_1,.int .i64 a0_2,.string a0_3]] w fun e w' => e = .returned (.agg #[.int .i64 r1,.int .i64 r2,.int .i64 r3,.string r4]) ∧ Below w.heap.size w w' := by
 have hu75 := Tryd.underlying75
 have hu39 := Tryd.underlying39
 have HB := Aside0.mk (Below.refl w.heap.size w)
 have H : (some (a0_0,a0_1,a0_2,a0_3)) = some (r1,r2,r3,r4) := h
 clear h
 simp only [Option.some.injEq,Prod.mk.injEq] at H
 obtain ⟨rfl,rfl,rfl,rfl⟩ := H
 go_enter Tryd.func49,Tryd.ntmps49
 go_wp2_with (first | ((with_reducible refine gate_dst (N:=1) rfl ?_); refine box_event ?hg (N:=1) ?hd (cs := #[.int .i64 a0_0,.int .i64 a0_1,.int .i64 a0_2,.string a0_3]) (t:=75) ?hr ?_; (case hd => rfl); (case hg => rfl); (case hr => first | (go_simp; done) | (go_simp; rfl)); intro gb199 hg w2 hbox hb; have n0_ := Aside0.mk (below_step bA hb); have n1_ := Aside0.mk (hbox); have n2_ := Aside0.mk ((by rw [hg]; exact (below_size bA) : w.heap.size ≤ gb199)); have n3_ := Aside0.mk ((by rw [hg]; exact (below_size bA) : w.heap.size ≤ gb199)); clear HB; have HB := n0_; have BK199 := n1_; have GW199 := n2_; have GE199 := n3_; clear n0_ n1_ n2_ n3_; clear hb hbox hg) | ((with_reducible refine gate_dst (N:=2) rfl ?_); refine box_event ?hg (N:=2) ?hd (cs := #[.int .i64 0,.int .i64 0,.int .i64 0,.string (⟨#[]⟩ : ByteArray)]) (t:=39) ?hr ?_; (case hd => rfl); (case hg => rfl); (case hr => first | (go_simp; done) | (go_simp; rfl)); intro gb200 hg w3 hbox hb; have n0_ := Aside0.mk (blk_below (g:=gb199) (o:=.cells #[.int .i64 a0_0,.int .i64 a0_1,.int .i64 a0_2,.string a0_3] 75 (0,0)) (kA BK199.out) hb); have n1_ := Aside0.mk (below_step bA hb); have n2_ := Aside0.mk (hbox); have n3_ := Aside0.mk ((by rw [hg]; exact (below_size bA) : w.heap.size ≤ gb200)); have n4_ := Aside0.mk ((by rw [hg]; exact (below_size bA) : w.heap.size ≤ gb200)); have n5_ := Aside0.mk ((by rw [hg]; exact Nat.ne_of_lt (blk_lt (g:=gb199) (o:=.cells #[.int .i64 a0_0,.int .i64 a0_1,.int .i64 a0_2,.string a0_3] 75 (0,0)) (kA BK199.out)) : gb199 ≠ gb200)); have n6_ := Aside0.mk ((by rw [hg]; exact Nat.ne_of_gt (blk_lt (g:=gb199) (o:=.cells #[.int .i64 a0_0,.int .i64 a0_1,.int .i64 a0_2,.string a0_3] 75 (0,0)) (kA BK199.out)) : gb200 ≠ gb199)); clear BK199; clear HB; have BK199 := n0_; have HB := n1_; have BK200 := n2_; have GW200 := n3_; have GE200 := n4_; have NB199_200 := n5_; have NB200_199 := n6_; clear n0_ n1_ n2_ n3_ n4_ n5_ n6_; clear hb hbox hg) | ((with_reducible refine gate_dst (N:=3) rfl ?_); refine box_event ?hg (N:=3) ?hd (cs := #[.int .i64 0,.int .i64 0,.int .i64 0,.string (⟨#[]⟩ : ByteArray)]) (t:=39) ?hr ?_; (case hd => rfl); (case hg => rfl); (case hr => first | (go_simp; done) | (go_simp; rfl)); intro gb201 hg w4 hbox hb; have n0_ := Aside0.mk (blk_below (g:=gb199) (o:=.cells #[.int .i64 a0_0,.int .i64 a0_1,.int .i64 a0_2,.string a0_3] 75 (0,0)) (kA BK199.out) hb); have n1_ := Aside0.mk (blk_below (g:=gb200) (o:=.cells #[.int .i64 0,.int .i64 0,.int .i64 0,.string (⟨#[]⟩ : ByteArray)] 39 (0,0)) (kA BK200.out) hb); have n2_ := Aside0.mk (below_step bA hb); have n3_ := Aside0.mk (hbox); have n4_ := Aside0.mk ((by rw [hg]; exact (below_size bA) : w.heap.size ≤ gb201)); have n5_ := Aside0.mk ((by rw [hg]; exact (below_size bA) : w.heap.size ≤ gb201)); have n6_ := Aside0.mk ((by rw [hg]; exact Nat.ne_of_lt (blk_lt (g:=gb199) (o:=.cells #[.int .i64 a0_0,.int .i64 a0_1,.int .i64 a0_2,.string a0_3] 75 (0,0)) (kA BK199.out)) : gb199 ≠ gb201)); have n7_ := Aside0.mk ((by rw [hg]; exact Nat.ne_of_gt (blk_lt (g:=gb199) (o:=.cells #[.int .i64 a0_0,.int .i64 a0_1,.int .i64 a0_2,.string a0_3] 75 (0,0)) (kA BK199.out)) : gb201 ≠ gb199)); have n8_ := Aside0.mk ((by rw [hg]; exact Nat.ne_of_lt (blk_lt (g:=gb200) (o:=.cells #[.int .i64 0,.int .i64 0,.int .i64 0,.string (⟨#[]⟩ : ByteArray)] 39 (0,0)) (kA BK200.out)) : gb200 ≠ gb201)); have n9_ := Aside0.mk ((by rw [hg]; exact Nat.ne_of_gt (blk_lt (g:=gb200) (o:=.cells #[.int .i64 0,.int .i64 0,.int .i64 0,.string (⟨#[]⟩ : ByteArray)] 39 (0,0)) (kA BK200.out)) : gb201 ≠ gb200)); clear BK199; clear BK200; clear HB; have BK199 := n0_; have BK200 := n1_; have HB := n2_; have BK201 := n3_; have GW201 := n4_; have GE201 := n5_; have NB199_201 := n6_; have NB201_199 := n7_; have NB200_201 := n8_; have NB201_200 := n9_; clear n0_ n1_ n2_ n3_ n4_ n5_ n6_ n7_ n8_ n9_; clear hb hbox hg; have hnb5 := NB199_200.out; have hnc5 := NB200_199.out; have hnb6 := NB199_201.out; have hnc6 := NB201_199.out; have hcz7_0 : w4.cell? ⟨gb199,0,none⟩ = some (.int .i64 a0_0) := (blk_cell BK199.out 0).trans rfl; have hcz7_1 : w4.cell? ⟨gb199,1,none⟩ = some (.int .i64 a0_1) := (blk_cell BK199.out 1).trans rfl; have hcz7_2 : w4.cell? ⟨gb199,2,none⟩ = some (.int .i64 a0_2) := (blk_cell BK199.out 2).trans rfl; have hcz7_3 : w4.cell? ⟨gb199,3,none⟩ = some (.string a0_3) := (blk_cell BK199.out 3).trans rfl; have hfz7_0 := blk_frozen BK199.out 0; have hfz7_1 := blk_frozen BK199.out 1; have hfz7_2 := blk_frozen BK199.out 2; have hfz7_3 := blk_frozen BK199.out 3; have hnb8 := NB201_200.out; have hnc8 := NB200_201.out; have hcz9_0 : w4.cell? ⟨gb201,0,none⟩ = some (.int .i64 0) := (blk_cell BK201.out 0).trans rfl; have hcz9_1 : w4.cell? ⟨gb201,1,none⟩ = some (.int .i64 0) := (blk_cell BK201.out 1).trans rfl; have hcz9_2 : w4.cell? ⟨gb201,2,none⟩ = some (.int .i64 0) := (blk_cell BK201.out 2).trans rfl; have hcz9_3 : w4.cell? ⟨gb201,3,none⟩ = some (.string (⟨#[]⟩ : ByteArray)) := (blk_cell BK201.out 3).trans rfl; have hfz9_0 := blk_frozen BK201.out 0; have hfz9_1 := blk_frozen BK201.out 1; have hfz9_2 := blk_frozen BK201.out 2; have hfz9_3 := blk_frozen BK201.out 3; have hcz10_0 : w4.cell? ⟨gb200,0,none⟩ = some (.int .i64 0) := (blk_cell BK200.out 0).trans rfl; have hcz10_1 : w4.cell? ⟨gb200,1,none⟩ = some (.int .i64 0) := (blk_cell BK200.out 1).trans rfl; have hcz10_2 : w4.cell? ⟨gb200,2,none⟩ = some (.int .i64 0) := (blk_cell BK200.out 2).trans rfl; have hcz10_3 : w4.cell? ⟨gb200,3,none⟩ = some (.string (⟨#[]⟩ : ByteArray)) := (blk_cell BK200.out 3).trans rfl; have hfz10_0 := blk_frozen BK200.out 0; have hfz10_1 := blk_frozen BK200.out 1; have hfz10_2 := blk_frozen BK200.out 2; have hfz10_3 := blk_frozen BK200.out 3))
 refine bodyPost_ret (results_cell_row rfl _ _ gb200 39 #[.int .i64 a0_0,.int .i64 a0_1,.int .i64 a0_2,.string a0_3] (0,0) _ rfl (by (with_reducible repeat (first | refine blk_drewN ?_ _ | refine blk_drew ?_ | refine blk_alloc ?_ _)); refine blk_put (cs := #[.int .i64 a0_0,.int .i64 a0_1,.int .i64 a0_2,.string (⟨#[]⟩ : ByteArray)]) ?_ 3 _ rfl; (with_reducible repeat (first | refine blk_drewN ?_ _ | refine blk_drew ?_ | refine blk_alloc ?_ _)); refine blk_put (cs := #[.int .i64 a0_0,.int .i64 a0_1,.int .i64 0,.string (⟨#[]⟩ : ByteArray)]) ?_ 2 _ rfl; (with_reducible repeat (first | refine blk_drewN ?_ _ | refine blk_drew ?_ | refine blk_alloc ?_ _)); refine blk_put (cs := #[.int .i64 a0_0,.int .i64 0,.int .i64 0,.string (⟨#[]⟩ : ByteArray)]) ?_ 1 _ rfl; (with_reducible repeat (first | refine blk_drewN ?_ _ | refine blk_drew ?_ | refine blk_alloc ?_ _)); refine blk_put (cs := #[.int .i64 0,.int .i64 0,.int .i64 0,.string (⟨#[]⟩ : ByteArray)]) ?_ 0 _ rfl; (with_reducible repeat (first | refine blk_drewN ?_ _ | refine blk_drew ?_ | refine blk_alloc ?_ _)); refine blk_far ?_ NB200_201.out _; (with_reducible repeat (first | refine blk_drewN ?_ _ | refine blk_drew ?_ | refine blk_alloc ?_ _)); refine blk_far ?_ NB200_201.out _; (with_reducible repeat (first | refine blk_drewN ?_ _ | refine blk_drew ?_ | refine blk_alloc ?_ _)); refine blk_far ?_ NB200_201.out _; (with_reducible repeat (first | refine blk_drewN ?_ _ | refine blk_drew ?_ | refine blk_alloc ?_ _)); refine blk_far ?_ NB200_201.out _; (with_reducible repeat (first | refine blk_drewN ?_ _ | refine blk_drew ?_ | refine blk_alloc ?_ _)); exact BK200.out) Tryd.underlying39 rfl (by kernel_rfl)) rfl ?_
 exact ⟨by first | rfl | (simp [errW_none,errW_some] <;> rfl) | (simp [*,errW_none,errW_some] <;> rfl),bA⟩

/-! ### laws_toEntryS: function 22 -/
def laws_toEntryS.l0 : Nat → List (S75) → List (S39) → Int → Option ((List (S39)))
 | 0,_,_,_ => none
 | k + 1,x0,x3,x4 => if x4 < (x0.length : Int) then (if 0 ≤ x4 then ((laws_toEntry.f ((rd_T75 x0 x4).f0) ((rd_T75 x0 x4).f1) ((rd_T75 x0 x4).f2) ((rd_T75 x0 x4).f3)).bind fun bt206 => (if x4 < (x3.length : Int) then (laws_toEntryS.l0 k x0 (x3.set (x4 : Int).toNat (⟨bt206.1,bt206.2.1,bt206.2.2.1,bt206.2.2.2⟩ : S39)) (wrap64 (x4 + 1))) else (none))) else (none)) else (some x3)
def laws_toEntryS.f (k : Nat) (l0 : List (S75)) : Option ((List (S39))) := if 0 ≤ (l0.length : Int) then (if ((l0.length : Int) : Int).toNat ≤ 7036874417766 then (laws_toEntryS.l0 k l0 (List.replicate ((l0.length : Int) : Int).toNat z39) 0) else (none)) else (none)
theorem laws_toEntryS.mono_l : ∀ k,(∀ y0 y1 y2,LeO (laws_toEntryS.l0 k y0 y1 y2) (laws_toEntryS.l0 (k + 1) y0 y1 y2))
 | 0 => fun _ _ _ r h => by simp [laws_toEntryS.l0] at h
 | k + 1 => by
  have ih0 := laws_toEntryS.mono_l k
  ·intro y0 y1 y2
   unfold laws_toEntryS.l0
   repeat' first
   | (with_reducible exact ih0 _ _ _)
   | (with_reducible exact LeO.refl _)
   | (with_reducible exact LeO.none _)
   | (with_reducible refine LeO.ite ?_ ?_)
   | (with_reducible refine LeO.bind ?_ (fun _ => ?_))
   | exact ih0 _ _ _
   | exact LeO.none _
   | refine LeO.ite ?_ ?_
   | refine LeO.bind ?_ (fun _ => ?_)
theorem laws_toEntryS.mono : ∀ a0 k,LeO (laws_toEntryS.f k a0) (laws_toEntryS.f (k + 1) a0) := by
 intro a0 k
 have ih0 := laws_toEntryS.mono_l k
 unfold laws_toEntryS.f
 repeat' first
   | (with_reducible exact ih0 _ _ _)
   | (with_reducible exact LeO.refl _)
   | (with_reducible exact LeO.none _)
   | (with_reducible refine LeO.ite ?_ ?_)
   | (with_reducible refine LeO.bind ?_ (fun _ => ?_))
   | exact ih0 _ _ _
   | exact LeO.none _
   | refine LeO.ite ?_ ?_
   | refine LeO.bind ?_ (fun _ => ?_)
set_option maxHeartbeats 8000000 in
set_option maxRecDepth 100000 in
theorem laws_toEntryS.calls (k : Nat) (A0 : Option Addr) (c0 : Nat) (l0 : List (S75)) (r : List (S39)) (w : World) (hr0 : Kd.C k75 w A0 l0.length l0) (hc0 : l0.length ≤ c0) (h : laws_toEntryS.f k l0 = some r) :
  Calls Tryd.prog 22 #[.slice A0 l0.length c0] w fun e w' => ∃ v0_ : Value,e = .returned (v0_) ∧ Kd.R k39 39 w' w.heap.size (fun _ => True) v0_ r ∧ Below w.heap.size w w' := by
 have hu75 := Tryd.underlying75
 have hu39 := Tryd.underlying39
 have HR0 := Aside0.mk hr0
 have HC0 := Aside0.mk hc0
 clear hr0 hc0
 have HB := Aside0.mk (Below.refl w.heap.size w)
 have H : (if 0 ≤ (l0.length : Int) then (if ((l0.length : Int) : Int).toNat ≤ 7036874417766 then (laws_toEntryS.l0 k l0 (List.replicate ((l0.length : Int) : Int).toNat z39) 0) else (none)) else (none)) = some r := h
 clear h
 by_cases c2 : 0 ≤ (l0.length : Int)
 ·rw [if_pos c2] at H
  have c2b0 := eq_true c2
  have c2b1 : decide (0 ≤ (l0.length : Int)) = true := decide_eq_true c2
  clear c2
  by_cases c3 : ((l0.length : Int) : Int).toNat ≤ 7036874417766
  ·rw [if_pos c3] at H
   have c3b0 := eq_true c3
   have c3b1 : decide (((l0.length : Int) : Int).toNat ≤ 7036874417766) = true := decide_eq_true c3
   clear c3
   obtain ⟨y202,hy202⟩ : ∃ y_ : List (S39),y_ = (List.replicate ((l0.length : Int) : Int).toNat z39) := ⟨_,rfl⟩
   replace H : (laws_toEntryS.l0 k l0 y202 0) = some r := by first | (rw [hy202]; with_reducible exact H) | (have H2_ := (Option.bind_some _ _).symm.trans H; rw [hy202]; with_reducible exact H2_) | (have H2_ := (Option.bind_some _ _).symm.trans H; with_reducible exact H2_) | with_reducible exact H | (rw [hy202]; exact H) | exact H
   have Ny202 := Aside0.mk hy202
   clear hy202
   have H' := Aside0.mk H
   clear H
   go_enter Tryd.func22,Tryd.ntmps22
   go_wp2_with (first | ((with_reducible refine gate_dst (N:=7) rfl ?_); refine Kd.R_make k39 _ 39 rfl (N:=7) rfl 29 _ _ rfl (l0.length : Int) rfl rfl Tryd.underlying29 (.agg #[(.int .i64 0),(.int .i64 0),(.int .i64 0),(.string ⟨#[]⟩)]) 40 info39 rfl (by decide) (by omega) z39 (ok := fun _ => True) (okp := fun _ => True) (k39_mkM _ _ _ z39 ) (fun _ hk => hk) trivial (of_decide_eq_true (by first | (with_reducible assumption) | assumption)) (Nat.le_trans (Nat.mul_le_mul_right _ (of_decide_eq_true (by first | (with_reducible assumption) | assumption) : (l0.length : Int).toNat ≤ 7036874417766)) (by omega)) (Below.refl _ _) (Nat.le_refl _) ?_; intro v203 w4 ho5 hb hg_ hnew_; clear hg_ hnew_; (first | rw [← Ny202.out] at ho5 | (simp only [Int.reduceToNat] at ho5; rw [← Ny202.out] at ho5)); have n0_ := Aside0.mk (Kd.R_lower ho5 (below_size bA)); have n1_ := Aside0.mk (below_step bA hb); clear HB; have HO204 := n0_; have HB := n1_; clear n0_ n1_; clear hb ho5))
   go_loopg [4] k (fun kq v4 w' => ∃ (x3_1 : List (S39)) (x4_1 : Int),v4 = .int .i64 x4_1 ∧ Aside0 (laws_toEntryS.l0 kq l0 x3_1 x4_1 = some r) ∧ Aside0 (kq ≤ k) ∧ Aside0 (Kd.R k39 39 w' w.heap.size (fun _ => True) v203 x3_1) ∧ Aside0 (Below w.heap.size w w'))
   case atStart => exact ⟨(y202),(0),(by first | rfl | (simp; done) | (simp [*]; done)),H',⟨Nat.le_refl _⟩,⟨rA HO204.out⟩,⟨bA⟩⟩
   case round =>
    clear H'
    try clear c2
    try clear c2b0
    try clear c2b1
    try clear p2
    try clear c3
    try clear c3b0
    try clear c3b1
    obtain ⟨x3_1,x4_1,rfl,HA,HK1,HO_3,HB⟩ := hrel
    cases gk with
    | zero => exact absurd HA.out (by simp [laws_toEntryS.l0])
    | succ k1 =>
     have H := HA.out
     clear HA
     simp only [laws_toEntryS.l0] at H
     by_cases c6 : x4_1 < (l0.length : Int)
     ·rw [if_pos c6] at H
      have c6b0 : decide (x4_1 < (l0.length : Int)) = true := decide_eq_true c6
      clear c6
      by_cases c7 : 0 ≤ x4_1
      ·rw [if_pos c7] at H
       have c7b0 : decide (0 ≤ x4_1) = true := decide_eq_true c7
       clear c7
       replace H := Option.bind_eq_some_iff.mp H
       obtain ⟨⟨t206,t207,t208,t209⟩,A80,H⟩ := H
       try dsimp only at H
       have A8 := Aside0.mk A80
       clear A80
       by_cases c9 : x4_1 < (x3_1.length : Int)
       ·rw [if_pos c9] at H
        have c9b0 : decide (x4_1 < (x3_1.length : Int)) = true := decide_eq_true c9
        clear c9
        obtain ⟨y210,hy210⟩ : ∃ y_ : List (S39),y_ = (x3_1.set (x4_1 : Int).toNat (⟨t206,t207,t208,t209⟩ : S39)) := ⟨_,rfl⟩
        replace H : (laws_toEntryS.l0 k1 l0 y210 (wrap64 (x4_1 + 1))) = some r := by first | (rw [hy210]; with_reducible exact H) | (have H2_ := (Option.bind_some _ _).symm.trans H; rw [hy210]; with_reducible exact H2_) | (have H2_ := (Option.bind_some _ _).symm.trans H; with_reducible exact H2_) | with_reducible exact H | (rw [hy210]; exact H) | exact H
        have Ny210 := Aside0.mk hy210
        clear hy210
        have H' := Aside0.mk H
        clear H
        have p205 : 0 ≤ (x4_1 : Int) := of_decide_eq_true (by first | (with_reducible assumption) | assumption)
        have q205 : x4_1 < (l0.length : Int) := of_decide_eq_true (by first | (with_reducible assumption) | assumption)
        obtain ⟨ad205,e205,hx205_0,hx205_1,hx205_2,hx205_3⟩ := at_T75 HR0.out x4_1 p205 q205
        cases e205
        replace hx205_0 := (HB.out.cell (World.block_lt_of_cell? w _ hx205_0)).trans hx205_0
        replace hx205_1 := (HB.out.cell (World.block_lt_of_cell? w _ hx205_1)).trans hx205_1
        replace hx205_2 := (HB.out.cell (World.block_lt_of_cell? w _ hx205_2)).trans hx205_2
        replace hx205_3 := (HB.out.cell (World.block_lt_of_cell? w _ hx205_3)).trans hx205_3
        replace p205 := eq_true p205
        replace q205 := eq_true q205
        go_wp2_with (first | ((with_reducible refine gate_callee (f:=49) rfl ?_); refine goesL_ (some 20) rfl rfl Tryd.func49 (by kernel_rfl) rfl #[.agg #[.int .i64 ((rd_T75 l0 x4_1).f0),.int .i64 ((rd_T75 l0 x4_1).f1),.int .i64 ((rd_T75 l0 x4_1).f2),.string ((rd_T75 l0 x4_1).f3)]] rfl mA ?_; (with_reducible refine (laws_toEntry.calls ((rd_T75 l0 x4_1).f0) ((rd_T75 l0 x4_1).f1) ((rd_T75 l0 x4_1).f2) ((rd_T75 l0 x4_1).f3) t206 t207 t208 t209 _ A8.out).mono ?_); rintro e w11 ⟨rfl,hb⟩; refine ⟨_,rfl,?_⟩; have n0_ := Aside0.mk (Kd.R_below (rA HO_3.out) hb); have n1_ := Aside0.mk (below_step bA hb); clear HO_3; clear HB; have HO_3 := n0_; have HB := n1_; clear n0_ n1_; (try clear hb); (try clear hb2); (try clear hk); (try clear hi); have p10 : 0 ≤ (x4_1 : Int) := of_decide_eq_true (by first | (with_reducible assumption) | assumption); have q10 : (x4_1 : Int) < ((x3_1.length : Int) : Int) := of_decide_eq_true (by first | (with_reducible assumption) | assumption); obtain ⟨go10,co10,eo10,gb10,gl10,cl10,HG10⟩ := Kd.R_form HO_3.out (by omega); (first | cases eo10 | (injection eo10 with ea_ en_ ec_; (first | subst ea_ | (injection ea_ with ea_; subst ea_)); subst ec_; clear en_)); have GB10 := Aside0.mk gb10; have GG10 := Aside0.mk HG10; clear gb10 gl10 HG10; obtain ⟨ce10,hcl10,hM10,hcc10,hfr10⟩ := Kd.R_elem HO_3.out z39 (x4_1 : Int) p10 q10; obtain rfl := k39_openM hM10; have hx10_0 : w11.cell? ⟨go10,(x4_1 : Int).toNat * 4,none⟩ = some (.int .i64 ((rd_T39 x3_1 x4_1).f0)) := hcc10 0 _ rfl; have hx10_1 : w11.cell? ⟨go10,(x4_1 : Int).toNat * 4 + 1,none⟩ = some (.int .i64 ((rd_T39 x3_1 x4_1).f1)) := hcc10 1 _ rfl; have hx10_2 : w11.cell? ⟨go10,(x4_1 : Int).toNat * 4 + 2,none⟩ = some (.int .i64 ((rd_T39 x3_1 x4_1).f2)) := hcc10 2 _ rfl; have hx10_3 : w11.cell? ⟨go10,(x4_1 : Int).toNat * 4 + 3,none⟩ = some (.string ((rd_T39 x3_1 x4_1).f3)) := hcc10 3 _ rfl; have hf10_0 : w11.frozen? ⟨go10,(x4_1 : Int).toNat * 4,none⟩ = false := hfr10 0; have hf10_1 : w11.frozen? ⟨go10,(x4_1 : Int).toNat * 4 + 1,none⟩ = false := hfr10 1; have hf10_2 : w11.frozen? ⟨go10,(x4_1 : Int).toNat * 4 + 2,none⟩ = false := hfr10 2; have hf10_3 : w11.frozen? ⟨go10,(x4_1 : Int).toNat * 4 + 3,none⟩ = false := hfr10 3; clear hcl10 hcc10 hfr10 hM10; replace p10 := eq_true p10; replace q10 := eq_true q10; have HX12 := Aside0.mk (show Kd.R k39 39 w11 w.heap.size (fun _ => True) (.slice (some ⟨go10,0,none⟩) x3_1.length co10) x3_1 from (rA HO_3.out)); obtain ⟨ce12,hcl12,hM12,hcc12,hfr12⟩ := Kd.R_elem HX12.out z39 (x4_1 : Int) (of_decide_eq_true (by first | (with_reducible assumption) | assumption)) (by have h_ : (x4_1 : Int) < ((x3_1.length : Int) : Int) := of_decide_eq_true (by first | (with_reducible assumption) | assumption); first | exact h_ | (have e_ := (Kd.R_reads' HO_3.out).1; omega) | simpa using h_); obtain rfl := k39_openM hM12; have HP12 := Kd.R_seg HX12.out (x4_1 : Int) (of_decide_eq_true (by first | (with_reducible assumption) | assumption)) (by have h_ : (x4_1 : Int) < ((x3_1.length : Int) : Int) := of_decide_eq_true (by first | (with_reducible assumption) | assumption); first | exact h_ | (have e_ := (Kd.R_reads' HO_3.out).1; omega) | simpa using h_) (seg := [.int .i64 t206,.int .i64 t207,.int .i64 t208,.string t209]) (j:=0) hcl12 hcc12 (show 4 ≤ 4 from by decide) (x':=(⟨t206,t207,t208,t209⟩ : S39)) (k39_mkM _ _ _ (⟨t206,t207,t208,t209⟩ : S39) ) (fun _ hk => hk); have hx12_0 := hcc12 0 _ rfl; (try simp only [show (k39).sz = 4 from rfl,Nat.mul_one,Nat.add_zero] at hx12_0); have hf12_0 := hfr12 0; (try simp only [show (k39).sz = 4 from rfl,Nat.mul_one,Nat.add_zero] at hf12_0); have hx12_1 := hcc12 1 _ rfl; (try simp only [show (k39).sz = 4 from rfl,Nat.mul_one,Nat.add_zero] at hx12_1); have hf12_1 := hfr12 1; (try simp only [show (k39).sz = 4 from rfl,Nat.mul_one,Nat.add_zero] at hf12_1); have hx12_2 := hcc12 2 _ rfl; (try simp only [show (k39).sz = 4 from rfl,Nat.mul_one,Nat.add_zero] at hx12_2); have hf12_2 := hfr12 2; (try simp only [show (k39).sz = 4 from rfl,Nat.mul_one,Nat.add_zero] at hf12_2); have hx12_3 := hcc12 3 _ rfl; (try simp only [show (k39).sz = 4 from rfl,Nat.mul_one,Nat.add_zero] at hx12_3); have hf12_3 := hfr12 3; (try simp only [show (k39).sz = 4 from rfl,Nat.mul_one,Nat.add_zero] at hf12_3); clear hcl12 hcc12 hfr12 hM12) | ((with_reducible refine gate_store (t:=39) (p:=21) rfl ?_); refine store_event (t:=39) (p:=21) (v:=?vo_w13) (w1 := ((((w11.setCell ⟨go10,(x4_1 : Int).toNat * 4,none⟩ (.int .i64 t206)).setCell ⟨go10,(x4_1 : Int).toNat * 4 + 1,none⟩ (.int .i64 t207)).setCell ⟨go10,(x4_1 : Int).toNat * 4 + 2,none⟩ (.int .i64 t208)).setCell ⟨go10,(x4_1 : Int).toNat * 4 + 3,none⟩ (.string t209))) ?hg ?ho ?hn ?hr ?_; (case ho => rfl); (case hg => rfl); (case hn => rfl); (case hr => first | (go_simp; done) | (go_simp; rfl)); intro w13 hw; have hg : w11.grownBy w13 (some go10) := (by rw [hw]; exact HP12.2); have hp_ : Kd.R k39 39 w13 w.heap.size (fun _ => True) (.slice (some ⟨go10,0,none⟩) x3_1.length co10) y210 := (by rw [hw,Ny210.out]; exact HP12.1); clear HP12; have n0_ := Aside0.mk (hp_); have n1_ := Aside0.mk ((by rw [hw]; exact below_set (below_set (below_set (below_set (HB.out) GB10.out) GB10.out) GB10.out) GB10.out : Below w.heap.size w w13)); clear HO_3; clear HB; have HO_3 := n0_; have HB := n1_; clear n0_ n1_; clear hg hw hp_))
        go_roundg k1
        case measure => have := HK1.out; omega
        case rel => exact ⟨(y210),(wrap64 (x4_1 + 1)),(by first | rfl | (simp; done) | (simp [*]; done)),H',⟨by have := HK1.out; omega⟩,⟨rA HO_3.out⟩,⟨bA⟩⟩
       ·rw [if_neg c9] at H
        exact absurd H (by simp)
      ·rw [if_neg c7] at H
       exact absurd H (by simp)
     ·rw [if_neg c6] at H
      have c6b0 : decide (x4_1 < (l0.length : Int)) = false := decide_eq_false c6
      clear c6
      obtain rfl := Option.some.inj H
      go_wp2
      go_ret
      exact ⟨_,by first | rfl | (simp only [i64_w,i32_w] <;> rfl) | (simp [errW_none,errW_some] <;> rfl) | (simp [*,errW_none,errW_some] <;> rfl),rA HO_3.out,bA⟩
  ·rw [if_neg c3] at H
   exact absurd H (by simp)
 ·rw [if_neg c2] at H
  exact absurd H (by simp)

/-! ### laws_toTomb: function 50 -/
def laws_toTomb.f (a0_0 : Int) (a0_1 : ByteArray) : Option (Int × ByteArray) := some (a0_0,a0_1)
set_option maxHeartbeats 8000000 in
set_option maxRecDepth 100000 in
theorem laws_toTomb.calls (a0_0 : Int) (a0_1 : ByteArray) (r1 : Int) (r2 : ByteArray) (w : World) (h : laws_toTomb.f a0_0 a0_1 = some (r1,r2)) :
  Calls Tryd.prog 50 #[.agg #[.int .i64 a0_0,.string a0_1]] w fun e w' => e = .returned (.agg #[.int .i64 r1,.string r2]) ∧ Below w.heap.size w w' := by
 have hu77 := Tryd.underlying77
 have hu55 := Tryd.underlying55
 have HB := Aside0.mk (Below.refl w.heap.size w)
 have H : (some (a0_0,a0_1)) = some (r1,r2) := h
 clear h
 simp only [Option.some.injEq,Prod.mk.injEq] at H
 obtain ⟨rfl,rfl⟩ := H
 go_enter Tryd.func50,Tryd.ntmps50
 go_wp2_with (first | ((with_reducible refine gate_dst (N:=1) rfl ?_); refine box_event ?hg (N:=1) ?hd (cs := #[.int .i64 a0_0,.string a0_1]) (t:=77) ?hr ?_; (case hd => rfl); (case hg => rfl); (case hr => first | (go_simp; done) | (go_simp; rfl)); intro gb211 hg w2 hbox hb; have n0_ := Aside0.mk (below_step bA hb); have n1_ := Aside0.mk (hbox); have n2_ := Aside0.mk ((by rw [hg]; exact (below_size bA) : w.heap.size ≤ gb211)); have n3_ := Aside0.mk ((by rw [hg]; exact (below_size bA) : w.heap.size ≤ gb211)); clear HB; have HB := n0_; have BK211 := n1_; have GW211 := n2_; have GE211 := n3_; clear n0_ n1_ n2_ n3_; clear hb hbox hg) | ((with_reducible refine gate_dst (N:=2) rfl ?_); refine box_event ?hg (N:=2) ?hd (cs := #[.int .i64 0,.string (⟨#[]⟩ : ByteArray)]) (t:=55) ?hr ?_; (case hd => rfl); (case hg => rfl); (case hr => first | (go_simp; done) | (go_simp; rfl)); intro gb212 hg w3 hbox hb; have n0_ := Aside0.mk (blk_below (g:=gb211) (o:=.cells #[.int .i64 a0_0,.string a0_1] 77 (0,0)) (kA BK211.out) hb); have n1_ := Aside0.mk (below_step bA hb); have n2_ := Aside0.mk (hbox); have n3_ := Aside0.mk ((by rw [hg]; exact (below_size bA) : w.heap.size ≤ gb212)); have n4_ := Aside0.mk ((by rw [hg]; exact (below_size bA) : w.heap.size ≤ gb212)); have n5_ := Aside0.mk ((by rw [hg]; exact Nat.ne_of_lt (blk_lt (g:=gb211) (o:=.cells #[.int .i64 a0_0,.string a0_1] 77 (0,0)) (kA BK211.out)) : gb211 ≠ gb212)); have n6_ := Aside0.mk ((by rw [hg]; exact Nat.ne_of_gt (blk_lt (g:=gb211) (o:=.cells #[.int .i64 a0_0,.string a0_1] 77 (0,0)) (kA BK211.out)) : gb212 ≠ gb211)); clear BK211; clear HB; have BK211 := n0_; have HB := n1_; have BK212 := n2_; have GW212 := n3_; have GE212 := n4_; have NB211_212 := n5_; have NB212_211 := n6_; clear n0_ n1_ n2_ n3_ n4_ n5_ n6_; clear hb hbox hg) | ((with_reducible refine gate_dst (N:=3) rfl ?_); refine box_event ?hg (N:=3) ?hd (cs := #[.int .i64 0,.string (⟨#[]⟩ : ByteArray)]) (t:=55) ?hr ?_; (case hd => rfl); (case hg => rfl); (case hr => first | (go_simp; done) | (go_simp; rfl)); intro gb213 hg w4 hbox hb; have n0_ := Aside0.mk (blk_below (g:=gb211) (o:=.cells #[.int .i64 a0_0,.string a0_1] 77 (0,0)) (kA BK211.out) hb); have n1_ := Aside0.mk (blk_below (g:=gb212) (o:=.cells #[.int .i64 0,.string (⟨#[]⟩ : ByteArray)] 55 (0,0)) (kA BK212.out) hb); have n2_ := Aside0.mk (below_step bA hb); have n3_ := Aside0.mk (hbox); have n4_ := Aside0.mk ((by rw [hg]; exact (below_size bA) : w.heap.size ≤ gb213)); have n5_ := Aside0.mk ((by rw [hg]; exact (below_size bA) : w.heap.size ≤ gb213)); have n6_ := Aside0.mk ((by rw [hg]; exact Nat.ne_of_lt (blk_lt (g:=gb211) (o:=.cells #[.int .i64 a0_0,.string a0_1] 77 (0,0)) (kA BK211.out)) : gb211 ≠ gb213)); have n7_ := Aside0.mk ((by rw [hg]; exact Nat.ne_of_gt (blk_lt (g:=gb211) (o:=.cells #[.int .i64 a0_0,.string a0_1] 77 (0,0)) (kA BK211.out)) : gb213 ≠ gb211)); have n8_ := Aside0.mk ((by rw [hg]; exact Nat.ne_of_lt (blk_lt (g:=gb212) (o:=.cells #[.int .i64 0,.string (⟨#[]⟩ : ByteArray)] 55 (0,0)) (kA BK212.out)) : gb212 ≠ gb213)); have n9_ := Aside0.mk ((by rw [hg]; exact Nat.ne_of_gt (blk_lt (g:=gb212) (o:=.cells #[.int .i64 0,.string (⟨#[]⟩ : ByteArray)] 55 (0,0)) (kA BK212.out)) : gb213 ≠ gb212)); clear BK211; clear BK212; clear HB; have BK211 := n0_; have BK212 := n1_; have HB := n2_; have BK213 := n3_; have GW213 := n4_; have GE213 := n5_; have NB211_213 := n6_; have NB213_211 := n7_; have NB212_213 := n8_; have NB213_212 := n9_; clear n0_ n1_ n2_ n3_ n4_ n5_ n6_ n7_ n8_ n9_; clear hb hbox hg; have hnb5 := NB211_212.out; have hnc5 := NB212_211.out; have hnb6 := NB211_213.out; have hnc6 := NB213_211.out; have hcz7_0 : w4.cell? ⟨gb211,0,none⟩ = some (.int .i64 a0_0) := (blk_cell BK211.out 0).trans rfl; have hcz7_1 : w4.cell? ⟨gb211,1,none⟩ = some (.string a0_1) := (blk_cell BK211.out 1).trans rfl; have hfz7_0 := blk_frozen BK211.out 0; have hfz7_1 := blk_frozen BK211.out 1; have hnb8 := NB213_212.out; have hnc8 := NB212_213.out; have hcz9_0 : w4.cell? ⟨gb213,0,none⟩ = some (.int .i64 0) := (blk_cell BK213.out 0).trans rfl; have hcz9_1 : w4.cell? ⟨gb213,1,none⟩ = some (.string (⟨#[]⟩ : ByteArray)) := (blk_cell BK213.out 1).trans rfl; have hfz9_0 := blk_frozen BK213.out 0; have hfz9_1 := blk_frozen BK213.out 1; have hcz10_0 : w4.cell? ⟨gb212,0,none⟩ = some (.int .i64 0) := (blk_cell BK212.out 0).trans rfl; have hcz10_1 : w4.cell? ⟨gb212,1,none⟩ = some (.string (⟨#[]⟩ : ByteArray)) := (blk_cell BK212.out 1).trans rfl; have hfz10_0 := blk_frozen BK212.out 0; have hfz10_1 := blk_frozen BK212.out 1))
 refine bodyPost_ret (results_cell_row rfl _ _ gb212 55 #[.int .i64 a0_0,.string a0_1] (0,0) _ rfl (by (with_reducible repeat (first | refine blk_drewN ?_ _ | refine blk_drew ?_ | refine blk_alloc ?_ _)); refine blk_put (cs := #[.int .i64 a0_0,.string (⟨#[]⟩ : ByteArray)]) ?_ 1 _ rfl; (with_reducible repeat (first | refine blk_drewN ?_ _ | refine blk_drew ?_ | refine blk_alloc ?_ _)); refine blk_put (cs := #[.int .i64 0,.string (⟨#[]⟩ : ByteArray)]) ?_ 0 _ rfl; (with_reducible repeat (first | refine blk_drewN ?_ _ | refine blk_drew ?_ | refine blk_alloc ?_ _)); refine blk_far ?_ NB212_213.out _; (with_reducible repeat (first | refine blk_drewN ?_ _ | refine blk_drew ?_ | refine blk_alloc ?_ _)); refine blk_far ?_ NB212_213.out _; (with_reducible repeat (first | refine blk_drewN ?_ _ | refine blk_drew ?_ | refine blk_alloc ?_ _)); exact BK212.out) Tryd.underlying55 rfl (by kernel_rfl)) rfl ?_
 exact ⟨by first | rfl | (simp [errW_none,errW_some] <;> rfl) | (simp [*,errW_none,errW_some] <;> rfl),bA⟩

/-! ### laws_toTombS: function 23 -/
def laws_toTombS.l0 : Nat → List (S77) → List (S55) → Int → Option ((List (S55)))
 | 0,_,_,_ => none
 | k + 1,x0,x3,x4 => if x4 < (x0.length : Int) then (if 0 ≤ x4 then ((laws_toTomb.f ((rd_T77 x0 x4).f0) ((rd_T77 x0 x4).f1)).bind fun bt218 => (if x4 < (x3.length : Int) then (laws_toTombS.l0 k x0 (x3.set (x4 : Int).toNat (⟨bt218.1,bt218.2⟩ : S55)) (wrap64 (x4 + 1))) else (none))) else (none)) else (some x3)
def laws_toTombS.f (k : Nat) (l0 : List (S77)) : Option ((List (S55))) := if 0 ≤ (l0.length : Int) then (if ((l0.length : Int) : Int).toNat ≤ 11728124029610 then (laws_toTombS.l0 k l0 (List.replicate ((l0.length : Int) : Int).toNat z55) 0) else (none)) else (none)
theorem laws_toTombS.mono_l : ∀ k,(∀ y0 y1 y2,LeO (laws_toTombS.l0 k y0 y1 y2) (laws_toTombS.l0 (k + 1) y0 y1 y2))
 | 0 => fun _ _ _ r h => by simp [laws_toTombS.l0] at h
 | k + 1 => by
  have ih0 := laws_toTombS.mono_l k
  ·intro y0 y1 y2
   unfold laws_toTombS.l0
   repeat' first
   | (with_reducible exact ih0 _ _ _)
   | (with_reducible exact LeO.refl _)
   | (with_reducible exact LeO.none _)
   | (with_reducible refine LeO.ite ?_ ?_)
   | (with_reducible refine LeO.bind ?_ (fun _ => ?_))
   | exact ih0 _ _ _
   | exact LeO.none _
   | refine LeO.ite ?_ ?_
   | refine LeO.bind ?_ (fun _ => ?_)
theorem laws_toTombS.mono : ∀ a0 k,LeO (laws_toTombS.f k a0) (laws_toTombS.f (k + 1) a0) := by
 intro a0 k
 have ih0 := laws_toTombS.mono_l k
 unfold laws_toTombS.f
 repeat' first
   | (with_reducible exact ih0 _ _ _)
   | (with_reducible exact LeO.refl _)
   | (with_reducible exact LeO.none _)
   | (with_reducible refine LeO.ite ?_ ?_)
   | (with_reducible refine LeO.bind ?_ (fun _ => ?_))
   | exact ih0 _ _ _
   | exact LeO.none _
   | refine LeO.ite ?_ ?_
   | refine LeO.bind ?_ (fun _ => ?_)
set_option maxHeartbeats 8000000 in
set_option maxRecDepth 100000 in
theorem laws_toTombS.calls (k : Nat) (A0 : Option Addr) (c0 : Nat) (l0 : List (S77)) (r : List (S55)) (w : World) (hr0 : Kd.C k77 w A0 l0.length l0) (hc0 : l0.length ≤ c0) (h : laws_toTombS.f k l0 = some r) :
  Calls Tryd.prog 23 #[.slice A0 l0.length c0] w fun e w' => ∃ v0_ : Value,e = .returned (v0_) ∧ Kd.R k55 55 w' w.heap.size (fun _ => True) v0_ r ∧ Below w.heap.size w w' := by
 have hu77 := Tryd.underlying77
 have hu55 := Tryd.underlying55
 have HR0 := Aside0.mk hr0
 have HC0 := Aside0.mk hc0
 clear hr0 hc0
 have HB := Aside0.mk (Below.refl w.heap.size w)
 have H : (if 0 ≤ (l0.length : Int) then (if ((l0.length : Int) : Int).toNat ≤ 11728124029610 then (laws_toTombS.l0 k l0 (List.replicate ((l0.length : Int) : Int).toNat z55) 0) else (none)) else (none)) = some r := h
 clear h
 by_cases c2 : 0 ≤ (l0.length : Int)
 ·rw [if_pos c2] at H
  have c2b0 := eq_true c2
  have c2b1 : decide (0 ≤ (l0.length : Int)) = true := decide_eq_true c2
  clear c2
  by_cases c3 : ((l0.length : Int) : Int).toNat ≤ 11728124029610
  ·rw [if_pos c3] at H
   have c3b0 := eq_true c3
   have c3b1 : decide (((l0.length : Int) : Int).toNat ≤ 11728124029610) = true := decide_eq_true c3
   clear c3
   obtain ⟨y214,hy214⟩ : ∃ y_ : List (S55),y_ = (List.replicate ((l0.length : Int) : Int).toNat z55) := ⟨_,rfl⟩
   replace H : (laws_toTombS.l0 k l0 y214 0) = some r := by first | (rw [hy214]; with_reducible exact H) | (have H2_ := (Option.bind_some _ _).symm.trans H; rw [hy214]; with_reducible exact H2_) | (have H2_ := (Option.bind_some _ _).symm.trans H; with_reducible exact H2_) | with_reducible exact H | (rw [hy214]; exact H) | exact H
   have Ny214 := Aside0.mk hy214
   clear hy214
   have H' := Aside0.mk H
   clear H
   go_enter Tryd.func23,Tryd.ntmps23
   go_wp2_with (first | ((with_reducible refine gate_dst (N:=7) rfl ?_); refine Kd.R_make k55 _ 55 rfl (N:=7) rfl 30 _ _ rfl (l0.length : Int) rfl rfl Tryd.underlying30 (.agg #[(.int .i64 0),(.string ⟨#[]⟩)]) 24 info55 rfl (by decide) (by omega) z55 (ok := fun _ => True) (okp := fun _ => True) (k55_mkM _ _ _ z55 ) (fun _ hk => hk) trivial (of_decide_eq_true (by first | (with_reducible assumption) | assumption)) (Nat.le_trans (Nat.mul_le_mul_right _ (of_decide_eq_true (by first | (with_reducible assumption) | assumption) : (l0.length : Int).toNat ≤ 11728124029610)) (by omega)) (Below.refl _ _) (Nat.le_refl _) ?_; intro v215 w4 ho5 hb hg_ hnew_; clear hg_ hnew_; (first | rw [← Ny214.out] at ho5 | (simp only [Int.reduceToNat] at ho5; rw [← Ny214.out] at ho5)); have n0_ := Aside0.mk (Kd.R_lower ho5 (below_size bA)); have n1_ := Aside0.mk (below_step bA hb); clear HB; have HO216 := n0_; have HB := n1_; clear n0_ n1_; clear hb ho5))
   go_loopg [4] k (fun kq v4 w' => ∃ (x3_1 : List (S55)) (x4_1 : Int),v4 = .int .i64 x4_1 ∧ Aside0 (laws_toTombS.l0 kq l0 x3_1 x4_1 = some r) ∧ Aside0 (kq ≤ k) ∧ Aside0 (Kd.R k55 55 w' w.heap.size (fun _ => True) v215 x3_1) ∧ Aside0 (Below w.heap.size w w'))
   case atStart => exact ⟨(y214),(0),(by first | rfl | (simp; done) | (simp [*]; done)),H',⟨Nat.le_refl _⟩,⟨rA HO216.out⟩,⟨bA⟩⟩
   case round =>
    clear H'
    try clear c2
    try clear c2b0
    try clear c2b1
    try clear p2
    try clear c3
    try clear c3b0
    try clear c3b1
    obtain ⟨x3_1,x4_1,rfl,HA,HK1,HO_3,HB⟩ := hrel
    cases gk with
    | zero => exact absurd HA.out (by simp [laws_toTombS.l0])
    | succ k1 =>
     have H := HA.out
     clear HA
     simp only [laws_toTombS.l0] at H
     by_cases c6 : x4_1 < (l0.length : Int)
     ·rw [if_pos c6] at H
      have c6b0 : decide (x4_1 < (l0.length : Int)) = true := decide_eq_true c6
      clear c6
      by_cases c7 : 0 ≤ x4_1
      ·rw [if_pos c7] at H
       have c7b0 : decide (0 ≤ x4_1) = true := decide_eq_true c7
       clear c7
       replace H := Option.bind_eq_some_iff.mp H
       obtain ⟨⟨t218,t219⟩,A80,H⟩ := H
       try dsimp only at H
       have A8 := Aside0.mk A80
       clear A80
       by_cases c9 : x4_1 < (x3_1.length : Int)
       ·rw [if_pos c9] at H
        have c9b0 : decide (x4_1 < (x3_1.length : Int)) = true := decide_eq_true c9
        clear c9
        obtain ⟨y220,hy220⟩ : ∃ y_ : List (S55),y_ = (x3_1.set (x4_1 : Int).toNat (⟨t218,t219⟩ : S55)) := ⟨_,rfl⟩
        replace H : (laws_toTombS.l0 k1 l0 y220 (wrap64 (x4_1 + 1))) = some r := by first | (rw [hy220]; with_reducible exact H) | (have H2_ := (Option.bind_some _ _).symm.trans H; rw [hy220]; with_reducible exact H2_) | (have H2_ := (Option.bind_some _ _).symm.trans H; with_reducible exact H2_) | with_reducible exact H | (rw [hy220]; exact H) | exact H
        have Ny220 := Aside0.mk hy220
        clear hy220
        have H' := Aside0.mk H
        clear H
        have p217 : 0 ≤ (x4_1 : Int) := of_decide_eq_true (by first | (with_reducible assumption) | assumption)
        have q217 : x4_1 < (l0.length : Int) := of_decide_eq_true (by first | (with_reducible assumption) | assumption)
        obtain ⟨ad217,e217,hx217_0,hx217_1⟩ := at_T77 HR0.out x4_1 p217 q217
        cases e217
        replace hx217_0 := (HB.out.cell (World.block_lt_of_cell? w _ hx217_0)).trans hx217_0
        replace hx217_1 := (HB.out.cell (World.block_lt_of_cell? w _ hx217_1)).trans hx217_1
        replace p217 := eq_true p217
        replace q217 := eq_true q217
        go_wp2_with (first | ((with_reducible refine gate_callee (f:=50) rfl ?_); refine goesL_ (some 20) rfl rfl Tryd.func50 (by kernel_rfl) rfl #[.agg #[.int .i64 ((rd_T77 l0 x4_1).f0),.string ((rd_T77 l0 x4_1).f1)]] rfl mA ?_; (with_reducible refine (laws_toTomb.calls ((rd_T77 l0 x4_1).f0) ((rd_T77 l0 x4_1).f1) t218 t219 _ A8.out).mono ?_); rintro e w11 ⟨rfl,hb⟩; refine ⟨_,rfl,?_⟩; have n0_ := Aside0.mk (Kd.R_below (rA HO_3.out) hb); have n1_ := Aside0.mk (below_step bA hb); clear HO_3; clear HB; have HO_3 := n0_; have HB := n1_; clear n0_ n1_; (try clear hb); (try clear hb2); (try clear hk); (try clear hi); have p10 : 0 ≤ (x4_1 : Int) := of_decide_eq_true (by first | (with_reducible assumption) | assumption); have q10 : (x4_1 : Int) < ((x3_1.length : Int) : Int) := of_decide_eq_true (by first | (with_reducible assumption) | assumption); obtain ⟨go10,co10,eo10,gb10,gl10,cl10,HG10⟩ := Kd.R_form HO_3.out (by omega); (first | cases eo10 | (injection eo10 with ea_ en_ ec_; (first | subst ea_ | (injection ea_ with ea_; subst ea_)); subst ec_; clear en_)); have GB10 := Aside0.mk gb10; have GG10 := Aside0.mk HG10; clear gb10 gl10 HG10; obtain ⟨ce10,hcl10,hM10,hcc10,hfr10⟩ := Kd.R_elem HO_3.out z55 (x4_1 : Int) p10 q10; obtain rfl := k55_openM hM10; have hx10_0 : w11.cell? ⟨go10,(x4_1 : Int).toNat * 2,none⟩ = some (.int .i64 ((rd_T55 x3_1 x4_1).f0)) := hcc10 0 _ rfl; have hx10_1 : w11.cell? ⟨go10,(x4_1 : Int).toNat * 2 + 1,none⟩ = some (.string ((rd_T55 x3_1 x4_1).f1)) := hcc10 1 _ rfl; have hf10_0 : w11.frozen? ⟨go10,(x4_1 : Int).toNat * 2,none⟩ = false := hfr10 0; have hf10_1 : w11.frozen? ⟨go10,(x4_1 : Int).toNat * 2 + 1,none⟩ = false := hfr10 1; clear hcl10 hcc10 hfr10 hM10; replace p10 := eq_true p10; replace q10 := eq_true q10; have HX12 := Aside0.mk (show Kd.R k55 55 w11 w.heap.size (fun _ => True) (.slice (some ⟨go10,0,none⟩) x3_1.length co10) x3_1 from (rA HO_3.out)); obtain ⟨ce12,hcl12,hM12,hcc12,hfr12⟩ := Kd.R_elem HX12.out z55 (x4_1 : Int) (of_decide_eq_true (by first | (with_reducible assumption) | assumption)) (by have h_ : (x4_1 : Int) < ((x3_1.length : Int) : Int) := of_decide_eq_true (by first | (with_reducible assumption) | assumption); first | exact h_ | (have e_ := (Kd.R_reads' HO_3.out).1; omega) | simpa using h_); obtain rfl := k55_openM hM12; have HP12 := Kd.R_seg HX12.out (x4_1 : Int) (of_decide_eq_true (by first | (with_reducible assumption) | assumption)) (by have h_ : (x4_1 : Int) < ((x3_1.length : Int) : Int) := of_decide_eq_true (by first | (with_reducible assumption) | assumption); first | exact h_ | (have e_ := (Kd.R_reads' HO_3.out).1; omega) | simpa using h_) (seg := [.int .i64 t218,.string t219]) (j:=0) hcl12 hcc12 (show 2 ≤ 2 from by decide) (x':=(⟨t218,t219⟩ : S55)) (k55_mkM _ _ _ (⟨t218,t219⟩ : S55) ) (fun _ hk => hk); have hx12_0 := hcc12 0 _ rfl; (try simp only [show (k55).sz = 2 from rfl,Nat.mul_one,Nat.add_zero] at hx12_0); have hf12_0 := hfr12 0; (try simp only [show (k55).sz = 2 from rfl,Nat.mul_one,Nat.add_zero] at hf12_0); have hx12_1 := hcc12 1 _ rfl; (try simp only [show (k55).sz = 2 from rfl,Nat.mul_one,Nat.add_zero] at hx12_1); have hf12_1 := hfr12 1; (try simp only [show (k55).sz = 2 from rfl,Nat.mul_one,Nat.add_zero] at hf12_1); clear hcl12 hcc12 hfr12 hM12) | ((with_reducible refine gate_store (t:=55) (p:=21) rfl ?_); refine store_event (t:=55) (p:=21) (v:=?vo_w13) (w1 := ((w11.setCell ⟨go10,(x4_1 : Int).toNat * 2,none⟩ (.int .i64 t218)).setCell ⟨go10,(x4_1 : Int).toNat * 2 + 1,none⟩ (.string t219))) ?hg ?ho ?hn ?hr ?_; (case ho => rfl); (case hg => rfl); (case hn => rfl); (case hr => first | (go_simp; done) | (go_simp; rfl)); intro w13 hw; have hg : w11.grownBy w13 (some go10) := (by rw [hw]; exact HP12.2); have hp_ : Kd.R k55 55 w13 w.heap.size (fun _ => True) (.slice (some ⟨go10,0,none⟩) x3_1.length co10) y220 := (by rw [hw,Ny220.out]; exact HP12.1); clear HP12; have n0_ := Aside0.mk (hp_); have n1_ := Aside0.mk ((by rw [hw]; exact below_set (below_set (HB.out) GB10.out) GB10.out : Below w.heap.size w w13)); clear HO_3; clear HB; have HO_3 := n0_; have HB := n1_; clear n0_ n1_; clear hg hw hp_))
        go_roundg k1
        case measure => have := HK1.out; omega
        case rel => exact ⟨(y220),(wrap64 (x4_1 + 1)),(by first | rfl | (simp; done) | (simp [*]; done)),H',⟨by have := HK1.out; omega⟩,⟨rA HO_3.out⟩,⟨bA⟩⟩
       ·rw [if_neg c9] at H
        exact absurd H (by simp)
      ·rw [if_neg c7] at H
       exact absurd H (by simp)
     ·rw [if_neg c6] at H
      have c6b0 : decide (x4_1 < (l0.length : Int)) = false := decide_eq_false c6
      clear c6
      obtain rfl := Option.some.inj H
      go_wp2
      go_ret
      exact ⟨_,by first | rfl | (simp only [i64_w,i32_w] <;> rfl) | (simp [errW_none,errW_some] <;> rfl) | (simp [*,errW_none,errW_some] <;> rfl),rA HO_3.out,bA⟩
  ·rw [if_neg c3] at H
   exact absurd H (by simp)
 ·rw [if_neg c2] at H
  exact absurd H (by simp)

/-! ### laws_toIntA3: function 24 (by hand) -/
def laws_toIntA3.f (a0 a1 a2 : Int) : Option (Int × Int × Int) := some (a0,a1,a2)
def ia_at (a : Int) (j i : Nat) : Int := if j < i then a else 0
set_option maxHeartbeats 8000000 in
set_option maxRecDepth 100000 in
theorem laws_toIntA3.calls (a0 a1 a2 : Int) (r1 r2 r3 : Int) (w : World) (h : laws_toIntA3.f a0 a1 a2 = some (r1,r2,r3)) :
  Calls Tryd.prog 24 #[.agg #[.int .i64 a0,.int .i64 a1,.int .i64 a2]] w fun e w' => e = .returned (.agg #[.int .i64 r1,.int .i64 r2,.int .i64 r3]) ∧ Below w.heap.size w w' := by
 obtain ⟨rfl,rfl,rfl⟩ : a0 = r1 ∧ a1 = r2 ∧ a2 = r3 := by unfold laws_toIntA3.f at h; simpa using h
 clear h
 have HB := Aside0.mk (Below.refl w.heap.size w)
 have hu80 := Tryd.underlying24
 go_enter Tryd.func24,Tryd.ntmps24
 go_wp2_with (first
  | ((with_reducible refine gate_dst (N:=1) rfl ?_); refine box_event ?hg (N:=1) ?hd (cs := #[.int .i64 a0,.int .i64 a1,.int .i64 a2]) (t:=24) ?hr ?_; (case hd => rfl); (case hg => rfl); (case hr => first | (go_simp; done) | (go_simp; rfl)); intro g1 hg1 w1 hbox hb; have HB1 := Aside0.mk (below_step HB.out hb); have BKa := Aside0.mk hbox; clear hb hbox hg1)
  | ((with_reducible refine gate_dst (N:=2) rfl ?_); refine box_event ?hg (N:=2) ?hd (cs := #[.int .i64 0,.int .i64 0,.int .i64 0]) (t:=24) ?hr ?_; (case hd => rfl); (case hg => rfl); (case hr => first | (go_simp; done) | (go_simp; rfl)); intro g2 hg2 w2 hbox hb; have HB2 := Aside0.mk (below_step HB1.out hb); have BKb := Aside0.mk hbox; have BKa2 := Aside0.mk ((hb.block g1 (blk_lt BKa.out)).trans BKa.out); have GW2 := Aside0.mk (show w.heap.size ≤ g2 from by rw [hg2]; exact HB1.out.size); have N12 := Aside0.mk (show g1 ≠ g2 from by rw [hg2]; exact Nat.ne_of_lt (blk_lt BKa.out)); clear hb hbox hg2)
  | ((with_reducible refine gate_dst (N:=3) rfl ?_); refine box_event ?hg (N:=3) ?hd (cs := #[.int .i64 0,.int .i64 0,.int .i64 0]) (t:=24) ?hr ?_; (case hd => rfl); (case hg => rfl); (case hr => first | (go_simp; done) | (go_simp; rfl)); intro g3 hg3 w3 hbox hb; have HB3 := Aside0.mk (below_step HB2.out hb); have BKc := Aside0.mk hbox; have BKb3 := Aside0.mk ((hb.block g2 (blk_lt BKb.out)).trans BKb.out); have BKa3 := Aside0.mk ((hb.block g1 (blk_lt BKa2.out)).trans BKa2.out); have GW3 := Aside0.mk (show w.heap.size ≤ g3 from by rw [hg3]; exact HB2.out.size); have N13 := Aside0.mk (show g1 ≠ g3 from by rw [hg3]; exact Nat.ne_of_lt (blk_lt BKa2.out)); have N23 := Aside0.mk (show g2 ≠ g3 from by rw [hg3]; exact Nat.ne_of_lt (blk_lt BKb.out)); clear hb hbox hg3))
 go_loopg [4] 3 (fun gg s4 wr => ∃ i : Nat,i ≤ 3 ∧ 3 - i ≤ gg ∧ s4 = .int .i64 i ∧ Aside0 (wr.heap[g1]? = some (.cells #[.int .i64 a0,.int .i64 a1,.int .i64 a2] 24 (0,0))) ∧ Aside0 (wr.heap[g2]? = some (.cells #[.int .i64 0,.int .i64 0,.int .i64 0] 24 (0,0))) ∧ Aside0 (wr.heap[g3]? = some (.cells #[.int .i64 (ia_at a0 0 i),.int .i64 (ia_at a1 1 i),.int .i64 (ia_at a2 2 i)] 24 (0,0))) ∧ Aside0 (Below w.heap.size w wr))
 case atStart => exact ⟨0,by omega,by omega,rfl,BKa3,BKb3,BKc,HB3⟩
 case round =>
  clear BKa3 BKb3 BKc HB3 BKa2 BKb BKa HB1 HB2
  obtain ⟨i,hi,hg,rfl,BKa,BKb,BKc,HBr⟩ := hrel
  have hca0 : wr.cell? ⟨g1,0,none⟩ = some (.int .i64 a0) := (blk_cell BKa.out 0).trans rfl
  have hca1 : wr.cell? ⟨g1,1,none⟩ = some (.int .i64 a1) := (blk_cell BKa.out 1).trans rfl
  have hca2 : wr.cell? ⟨g1,2,none⟩ = some (.int .i64 a2) := (blk_cell BKa.out 2).trans rfl
  obtain rfl | rfl | rfl | rfl : i = 0 ∨ i = 1 ∨ i = 2 ∨ i = 3 := by omega
  ·have hc0 : wr.cell? ⟨g3,0,none⟩ = some (.int .i64 (ia_at a0 0 0)) := (blk_cell BKc.out 0).trans rfl
   have hf0 := blk_frozen BKc.out 0
   go_wp2
   go_roundg 2
   case measure => omega
   case rel => exact ⟨1,by omega,by omega,by go_num,⟨blk_far BKa.out N13.out _⟩,⟨blk_far BKb.out N23.out _⟩,⟨blk_put BKc.out 0 (.int .i64 a0) rfl⟩,⟨below_set HBr.out GW3.out⟩⟩
  ·have hc0 : wr.cell? ⟨g3,1,none⟩ = some (.int .i64 (ia_at a1 1 1)) := (blk_cell BKc.out 1).trans rfl
   have hf0 := blk_frozen BKc.out 1
   go_wp2
   go_roundg 1
   case measure => omega
   case rel => exact ⟨2,by omega,by omega,by go_num,⟨blk_far BKa.out N13.out _⟩,⟨blk_far BKb.out N23.out _⟩,⟨blk_put BKc.out 1 (.int .i64 a1) rfl⟩,⟨below_set HBr.out GW3.out⟩⟩
  ·have hc0 : wr.cell? ⟨g3,2,none⟩ = some (.int .i64 (ia_at a2 2 2)) := (blk_cell BKc.out 2).trans rfl
   have hf0 := blk_frozen BKc.out 2
   go_wp2
   go_roundg 0
   case measure => omega
   case rel => exact ⟨3,by omega,by omega,by go_num,⟨blk_far BKa.out N13.out _⟩,⟨blk_far BKb.out N23.out _⟩,⟨blk_put BKc.out 2 (.int .i64 a2) rfl⟩,⟨below_set HBr.out GW3.out⟩⟩
  ·have hc0 : wr.cell? ⟨g3,0,none⟩ = some (.int .i64 a0) := (blk_cell BKc.out 0).trans rfl
   have hc1 : wr.cell? ⟨g3,1,none⟩ = some (.int .i64 a1) := (blk_cell BKc.out 1).trans rfl
   have hc2 : wr.cell? ⟨g3,2,none⟩ = some (.int .i64 a2) := (blk_cell BKc.out 2).trans rfl
   have hd0 : wr.cell? ⟨g2,0,none⟩ = some (.int .i64 0) := (blk_cell BKb.out 0).trans rfl
   have hd1 : wr.cell? ⟨g2,1,none⟩ = some (.int .i64 0) := (blk_cell BKb.out 1).trans rfl
   have hd2 : wr.cell? ⟨g2,2,none⟩ = some (.int .i64 0) := (blk_cell BKb.out 2).trans rfl
   have hf0 := blk_frozen BKb.out 0
   have hf1 := blk_frozen BKb.out 1
   have hf2 := blk_frozen BKb.out 2
   go_wp2
   refine bodyPost_ret (results_cell_row rfl _ _ g2 24 #[.int .i64 a0,.int .i64 a1,.int .i64 a2] (0,0) _ rfl (blk_put (cs := #[.int .i64 a0,.int .i64 a1,.int .i64 0]) (blk_put (cs := #[.int .i64 a0,.int .i64 0,.int .i64 0]) (blk_put BKb.out 0 (.int .i64 a0) rfl) 1 (.int .i64 a1) rfl) 2 (.int .i64 a2) rfl) hu80 rfl (by kernel_rfl)) rfl ?_
   exact ⟨rfl,below_set (below_set (below_set HBr.out GW2.out) GW2.out) GW2.out⟩

/-! ### laws_toState: function 8 -/
def laws_toState.f (k : Nat) (a0_0 : Int) (a0_1 : Int) (l0_2 : List (S75)) (l0_3 : List (S77)) (a0_4 : Int) (a0_5 : Int) (a0_6 : Int) (a0_7 : Int) (a0_8 : Int) (a0_9 : Int) : Option (Int × Int × (List (S39)) × (List (S55)) × Int × Int × Int × Int × Int × Int) := (laws_toEntryS.f k l0_2).bind fun t224 => ((laws_toTombS.f k l0_3).bind fun t227 => ((laws_toIntA3.f a0_4 a0_5 a0_6).bind fun bt230 => ((laws_toIntA3.f a0_7 a0_8 a0_9).bind fun bt233 => (some (a0_0,a0_1,t224,t227,bt230.1,bt230.2.1,bt230.2.2,bt233.1,bt233.2.1,bt233.2.2)))))
theorem laws_toState.mono : ∀ a0 a1 a2 a3 a4 a5 a6 a7 a8 a9 k,LeO (laws_toState.f k a0 a1 a2 a3 a4 a5 a6 a7 a8 a9) (laws_toState.f (k + 1) a0 a1 a2 a3 a4 a5 a6 a7 a8 a9) := by
 intro a0 a1 a2 a3 a4 a5 a6 a7 a8 a9 k
 unfold laws_toState.f
 repeat' first
   | (with_reducible exact laws_toEntryS.mono _ _)
   | (with_reducible exact laws_toTombS.mono _ _)
   | (with_reducible exact LeO.refl _)
   | (with_reducible exact LeO.none _)
   | (with_reducible refine LeO.ite ?_ ?_)
   | (with_reducible refine LeO.bind ?_ (fun _ => ?_))
   | exact laws_toEntryS.mono _ _
   | exact laws_toTombS.mono _ _
   | exact LeO.none _
   | refine LeO.ite ?_ ?_
   | refine LeO.bind ?_ (fun _ => ?_)
set_option maxHeartbeats 8000000 in
set_option maxRecDepth 100000 in
theorem laws_toState.calls (k : Nat) (a0_0 : Int) (a0_1 : Int) (A0_2 : Option Addr) (c0_2 : Nat) (l0_2 : List (S75)) (A0_3 : Option Addr) (c0_3 : Nat) (l0_3 : List (S77)) (a0_4 : Int) (a0_5 : Int) (a0_6 : Int) (a0_7 : Int) (a0_8 : Int) (a0_9 : Int) (r1 : Int) (r2 : Int) (r3 : List (S39)) (r4 : List (S55)) (r5 : Int) (r6 : Int) (r7 : Int) (r8 : Int) (r9 : Int) (r10 : Int) (w : World) (hr0_2 : Kd.C k75 w A0_2 l0_2.length l0_2) (hc0_2 : l0_2.length ≤ c0_2) (hr0_3 : Kd.C k77 w A0_3 l0_3.length l0_3) (hc0_3 : l0_3.length ≤ c0_3) (h : laws_toState.f k a0_0 a0_1 l0_2 l0_3 a0_4 a0_5 a0_6 a0_7 a0_8 a0_9 = some (r1,r2,r3,r4,r5,r6,r7,r8,r9,r10)) :
  Calls Tryd.prog 8 #[.agg #[.int .i64 a0_0,.int .i64 a0_1,.slice A0_2 l0_2.length c0_2,.slice A0_3 l0_3.length c0_3,.int .i64 a0_4,.int .i64 a0_5,.int .i64 a0_6,.int .i64 a0_7,.int .i64 a0_8,.int .i64 a0_9]] w fun e w' => ∃ v2_ v3_ : Value,e = .returned (.agg #[.int .i64 r1,.int .i64 r2,v2_,v3_,.int .i64 r5,.int .i64 r6,.int .i64 r7,.int .i64 r8,.int .i64 r9,.int .i64 r10]) ∧ Kd.R k39 39 w' w.heap.size (fun _ => True) v2_ r3 ∧ Kd.R k55 55 w' w.heap.size (fun _ => True) v3_ r4 ∧ Below w.heap.size w w' := by
 have hu26 := Tryd.underlying26
 have hu32 := Tryd.underlying32
 have hu24 := Tryd.underlying24
 have HR0_2 := Aside0.mk hr0_2
 have HC0_2 := Aside0.mk hc0_2
 clear hr0_2 hc0_2
 have HR0_3 := Aside0.mk hr0_3
 have HC0_3 := Aside0.mk hc0_3
 clear hr0_3 hc0_3
 have HB := Aside0.mk (Below.refl w.heap.size w)
 have H : ((laws_toEntryS.f k l0_2).bind fun t224 => ((laws_toTombS.f k l0_3).bind fun t227 => ((laws_toIntA3.f a0_4 a0_5 a0_6).bind fun bt230 => ((laws_toIntA3.f a0_7 a0_8 a0_9).bind fun bt233 => (some (a0_0,a0_1,t224,t227,bt230.1,bt230.2.1,bt230.2.2,bt233.1,bt233.2.1,bt233.2.2)))))) = some (r1,r2,r3,r4,r5,r6,r7,r8,r9,r10) := h
 clear h
 replace H := Option.bind_eq_some_iff.mp H
 obtain ⟨t224,A20,H⟩ := H
 try dsimp only at H
 have A2 := Aside0.mk A20
 clear A20
 replace H := Option.bind_eq_some_iff.mp H
 obtain ⟨t227,A30,H⟩ := H
 try dsimp only at H
 have A3 := Aside0.mk A30
 clear A30
 replace H := Option.bind_eq_some_iff.mp H
 obtain ⟨⟨t230,t231,t232⟩,A40,H⟩ := H
 try dsimp only at H
 have A4 := Aside0.mk A40
 clear A40
 replace H := Option.bind_eq_some_iff.mp H
 obtain ⟨⟨t233,t234,t235⟩,A50,H⟩ := H
 try dsimp only at H
 have A5 := Aside0.mk A50
 clear A50
 simp only [Option.some.injEq,Prod.mk.injEq] at H
 obtain ⟨rfl,rfl,rfl,rfl,rfl,rfl,rfl,rfl,rfl,rfl⟩ := H
 go_enter Tryd.func8,Tryd.ntmps8
 go_wp2_with (first | ((with_reducible refine gate_dst (N:=1) rfl ?_); refine box_event ?hg (N:=1) ?hd (cs := #[.int .i64 a0_0,.int .i64 a0_1,.slice A0_2 l0_2.length c0_2,.slice A0_3 l0_3.length c0_3,.int .i64 a0_4,.int .i64 a0_5,.int .i64 a0_6,.int .i64 a0_7,.int .i64 a0_8,.int .i64 a0_9]) (t:=26) ?hr ?_; (case hd => rfl); (case hg => rfl); (case hr => first | (go_simp; done) | (go_simp; rfl)); intro gb221 hg w6 hbox hb; have n0_ := Aside0.mk (below_step bA hb); have n1_ := Aside0.mk (hbox); have n2_ := Aside0.mk ((by rw [hg]; exact (below_size bA) : w.heap.size ≤ gb221)); have n3_ := Aside0.mk ((by rw [hg]; exact (below_size bA) : w.heap.size ≤ gb221)); clear HB; have HB := n0_; have BK221 := n1_; have GW221 := n2_; have GE221 := n3_; clear n0_ n1_ n2_ n3_; clear hb hbox hg) | ((with_reducible refine gate_dst (N:=2) rfl ?_); refine box_event ?hg (N:=2) ?hd (cs := #[.int .i64 0,.int .i64 0,.slice none 0 0,.slice none 0 0,.int .i64 0,.int .i64 0,.int .i64 0,.int .i64 0,.int .i64 0,.int .i64 0]) (t:=32) ?hr ?_; (case hd => rfl); (case hg => rfl); (case hr => first | (go_simp; done) | (go_simp; rfl)); intro gb222 hg w7 hbox hb; have n0_ := Aside0.mk (blk_below (g:=gb221) (o:=.cells #[.int .i64 a0_0,.int .i64 a0_1,.slice A0_2 l0_2.length c0_2,.slice A0_3 l0_3.length c0_3,.int .i64 a0_4,.int .i64 a0_5,.int .i64 a0_6,.int .i64 a0_7,.int .i64 a0_8,.int .i64 a0_9] 26 (0,0)) (kA BK221.out) hb); have n1_ := Aside0.mk (below_step bA hb); have n2_ := Aside0.mk (hbox); have n3_ := Aside0.mk ((by rw [hg]; exact (below_size bA) : w.heap.size ≤ gb222)); have n4_ := Aside0.mk ((by rw [hg]; exact (below_size bA) : w.heap.size ≤ gb222)); have n5_ := Aside0.mk ((by rw [hg]; exact Nat.ne_of_lt (blk_lt (g:=gb221) (o:=.cells #[.int .i64 a0_0,.int .i64 a0_1,.slice A0_2 l0_2.length c0_2,.slice A0_3 l0_3.length c0_3,.int .i64 a0_4,.int .i64 a0_5,.int .i64 a0_6,.int .i64 a0_7,.int .i64 a0_8,.int .i64 a0_9] 26 (0,0)) (kA BK221.out)) : gb221 ≠ gb222)); have n6_ := Aside0.mk ((by rw [hg]; exact Nat.ne_of_gt (blk_lt (g:=gb221) (o:=.cells #[.int .i64 a0_0,.int .i64 a0_1,.slice A0_2 l0_2.length c0_2,.slice A0_3 l0_3.length c0_3,.int .i64 a0_4,.int .i64 a0_5,.int .i64 a0_6,.int .i64 a0_7,.int .i64 a0_8,.int .i64 a0_9] 26 (0,0)) (kA BK221.out)) : gb222 ≠ gb221)); clear BK221; clear HB; have BK221 := n0_; have HB := n1_; have BK222 := n2_; have GW222 := n3_; have GE222 := n4_; have NB221_222 := n5_; have NB222_221 := n6_; clear n0_ n1_ n2_ n3_ n4_ n5_ n6_; clear hb hbox hg) | ((with_reducible refine gate_dst (N:=3) rfl ?_); refine box_event ?hg (N:=3) ?hd (cs := #[.int .i64 0,.int .i64 0,.slice none 0 0,.slice none 0 0,.int .i64 0,.int .i64 0,.int .i64 0,.int .i64 0,.int .i64 0,.int .i64 0]) (t:=32) ?hr ?_; (case hd => rfl); (case hg => rfl); (case hr => first | (go_simp; done) | (go_simp; rfl)); intro gb223 hg w8 hbox hb; have n0_ := Aside0.mk (blk_below (g:=gb221) (o:=.cells #[.int .i64 a0_0,.int .i64 a0_1,.slice A0_2 l0_2.length c0_2,.slice A0_3 l0_3.length c0_3,.int .i64 a0_4,.int .i64 a0_5,.int .i64 a0_6,.int .i64 a0_7,.int .i64 a0_8,.int .i64 a0_9] 26 (0,0)) (kA BK221.out) hb); have n1_ := Aside0.mk (blk_below (g:=gb222) (o:=.cells #[.int .i64 0,.int .i64 0,.slice none 0 0,.slice none 0 0,.int .i64 0,.int .i64 0,.int .i64 0,.int .i64 0,.int .i64 0,.int .i64 0] 32 (0,0)) (kA BK222.out) hb); have n2_ := Aside0.mk (below_step bA hb); have n3_ := Aside0.mk (hbox); have n4_ := Aside0.mk ((by rw [hg]; exact (below_size bA) : w.heap.size ≤ gb223)); have n5_ := Aside0.mk ((by rw [hg]; exact (below_size bA) : w.heap.size ≤ gb223)); have n6_ := Aside0.mk ((by rw [hg]; exact Nat.ne_of_lt (blk_lt (g:=gb221) (o:=.cells #[.int .i64 a0_0,.int .i64 a0_1,.slice A0_2 l0_2.length c0_2,.slice A0_3 l0_3.length c0_3,.int .i64 a0_4,.int .i64 a0_5,.int .i64 a0_6,.int .i64 a0_7,.int .i64 a0_8,.int .i64 a0_9] 26 (0,0)) (kA BK221.out)) : gb221 ≠ gb223)); have n7_ := Aside0.mk ((by rw [hg]; exact Nat.ne_of_gt (blk_lt (g:=gb221) (o:=.cells #[.int .i64 a0_0,.int .i64 a0_1,.slice A0_2 l0_2.length c0_2,.slice A0_3 l0_3.length c0_3,.int .i64 a0_4,.int .i64 a0_5,.int .i64 a0_6,.int .i64 a0_7,.int .i64 a0_8,.int .i64 a0_9] 26 (0,0)) (kA BK221.out)) : gb223 ≠ gb221)); have n8_ := Aside0.mk ((by rw [hg]; exact Nat.ne_of_lt (blk_lt (g:=gb222) (o:=.cells #[.int .i64 0,.int .i64 0,.slice none 0 0,.slice none 0 0,.int .i64 0,.int .i64 0,.int .i64 0,.int .i64 0,.int .i64 0,.int .i64 0] 32 (0,0)) (kA BK222.out)) : gb222 ≠ gb223)); have n9_ := Aside0.mk ((by rw [hg]; exact Nat.ne_of_gt (blk_lt (g:=gb222) (o:=.cells #[.int .i64 0,.int .i64 0,.slice none 0 0,.slice none 0 0,.int .i64 0,.int .i64 0,.int .i64 0,.int .i64 0,.int .i64 0,.int .i64 0] 32 (0,0)) (kA BK222.out)) : gb223 ≠ gb222)); clear BK221; clear BK222; clear HB; have BK221 := n0_; have BK222 := n1_; have HB := n2_; have BK223 := n3_; have GW223 := n4_; have GE223 := n5_; have NB221_223 := n6_; have NB223_221 := n7_; have NB222_223 := n8_; have NB223_222 := n9_; clear n0_ n1_ n2_ n3_ n4_ n5_ n6_ n7_ n8_ n9_; clear hb hbox hg; have hnb9 := NB221_222.out; have hnc9 := NB222_221.out; have hnb10 := NB221_223.out; have hnc10 := NB223_221.out; have hcz11_0 : w8.cell? ⟨gb221,0,none⟩ = some (.int .i64 a0_0) := (blk_cell BK221.out 0).trans rfl; have hcz11_1 : w8.cell? ⟨gb221,1,none⟩ = some (.int .i64 a0_1) := (blk_cell BK221.out 1).trans rfl; have hcz11_2 : w8.cell? ⟨gb221,2,none⟩ = some (.slice A0_2 l0_2.length c0_2) := (blk_cell BK221.out 2).trans rfl; have hcz11_3 : w8.cell? ⟨gb221,3,none⟩ = some (.slice A0_3 l0_3.length c0_3) := (blk_cell BK221.out 3).trans rfl; have hcz11_4 : w8.cell? ⟨gb221,4,none⟩ = some (.int .i64 a0_4) := (blk_cell BK221.out 4).trans rfl; have hcz11_5 : w8.cell? ⟨gb221,5,none⟩ = some (.int .i64 a0_5) := (blk_cell BK221.out 5).trans rfl; have hcz11_6 : w8.cell? ⟨gb221,6,none⟩ = some (.int .i64 a0_6) := (blk_cell BK221.out 6).trans rfl; have hcz11_7 : w8.cell? ⟨gb221,7,none⟩ = some (.int .i64 a0_7) := (blk_cell BK221.out 7).trans rfl; have hcz11_8 : w8.cell? ⟨gb221,8,none⟩ = some (.int .i64 a0_8) := (blk_cell BK221.out 8).trans rfl; have hcz11_9 : w8.cell? ⟨gb221,9,none⟩ = some (.int .i64 a0_9) := (blk_cell BK221.out 9).trans rfl; have hfz11_0 := blk_frozen BK221.out 0; have hfz11_1 := blk_frozen BK221.out 1; have hfz11_2 := blk_frozen BK221.out 2; have hfz11_3 := blk_frozen BK221.out 3; have hfz11_4 := blk_frozen BK221.out 4; have hfz11_5 := blk_frozen BK221.out 5; have hfz11_6 := blk_frozen BK221.out 6; have hfz11_7 := blk_frozen BK221.out 7; have hfz11_8 := blk_frozen BK221.out 8; have hfz11_9 := blk_frozen BK221.out 9; have hnb12 := NB223_222.out; have hnc12 := NB222_223.out; have hcz13_0 : w8.cell? ⟨gb223,0,none⟩ = some (.int .i64 0) := (blk_cell BK223.out 0).trans rfl; have hcz13_1 : w8.cell? ⟨gb223,1,none⟩ = some (.int .i64 0) := (blk_cell BK223.out 1).trans rfl; have hcz13_2 : w8.cell? ⟨gb223,2,none⟩ = some (.slice none 0 0) := (blk_cell BK223.out 2).trans rfl; have hcz13_3 : w8.cell? ⟨gb223,3,none⟩ = some (.slice none 0 0) := (blk_cell BK223.out 3).trans rfl; have hcz13_4 : w8.cell? ⟨gb223,4,none⟩ = some (.int .i64 0) := (blk_cell BK223.out 4).trans rfl; have hcz13_5 : w8.cell? ⟨gb223,5,none⟩ = some (.int .i64 0) := (blk_cell BK223.out 5).trans rfl; have hcz13_6 : w8.cell? ⟨gb223,6,none⟩ = some (.int .i64 0) := (blk_cell BK223.out 6).trans rfl; have hcz13_7 : w8.cell? ⟨gb223,7,none⟩ = some (.int .i64 0) := (blk_cell BK223.out 7).trans rfl; have hcz13_8 : w8.cell? ⟨gb223,8,none⟩ = some (.int .i64 0) := (blk_cell BK223.out 8).trans rfl; have hcz13_9 : w8.cell? ⟨gb223,9,none⟩ = some (.int .i64 0) := (blk_cell BK223.out 9).trans rfl; have hfz13_0 := blk_frozen BK223.out 0; have hfz13_1 := blk_frozen BK223.out 1; have hfz13_2 := blk_frozen BK223.out 2; have hfz13_3 := blk_frozen BK223.out 3; have hfz13_4 := blk_frozen BK223.out 4; have hfz13_5 := blk_frozen BK223.out 5; have hfz13_6 := blk_frozen BK223.out 6; have hfz13_7 := blk_frozen BK223.out 7; have hfz13_8 := blk_frozen BK223.out 8; have hfz13_9 := blk_frozen BK223.out 9) | ((with_reducible refine gate_callee (f:=22) rfl ?_); refine goesL_ (some 12) rfl rfl Tryd.func22 (by kernel_rfl) rfl #[.slice A0_2 l0_2.length c0_2] rfl mA ?_; (with_reducible refine (laws_toEntryS.calls k _ _ l0_2 t224 _ ?side1 ?side2 A2.out).mono ?_); (case side1 => exact Kd.C_below HR0_2.out bA); (case side2 => exact HC0_2.out); rintro e w14 ⟨v225,rfl,ho0,hb⟩; refine ⟨_,rfl,?_⟩; have n0_ := Aside0.mk (Kd.R_lower ho0 (below_size bA)); have n1_ := Aside0.mk (blk_below (g:=gb221) (o:=.cells #[.int .i64 a0_0,.int .i64 a0_1,.slice A0_2 l0_2.length c0_2,.slice A0_3 l0_3.length c0_3,.int .i64 a0_4,.int .i64 a0_5,.int .i64 a0_6,.int .i64 a0_7,.int .i64 a0_8,.int .i64 a0_9] 26 (0,0)) (kF BK221.out) hb); have n2_ := Aside0.mk (blk_below (g:=gb222) (o:=.cells #[.int .i64 0,.int .i64 0,.slice none 0 0,.slice none 0 0,.int .i64 0,.int .i64 0,.int .i64 0,.int .i64 0,.int .i64 0,.int .i64 0] 32 (0,0)) (kF BK222.out) hb); have n3_ := Aside0.mk (blk_below (g:=gb223) (o:=.cells #[.int .i64 a0_0,.int .i64 a0_1,.slice none 0 0,.slice none 0 0,.int .i64 0,.int .i64 0,.int .i64 0,.int .i64 0,.int .i64 0,.int .i64 0] 32 (0,0)) (by (with_reducible repeat (first | refine blk_drewN ?_ _ | refine blk_drew ?_ | refine blk_alloc ?_ _)); refine blk_put (cs := #[.int .i64 a0_0,.int .i64 0,.slice none 0 0,.slice none 0 0,.int .i64 0,.int .i64 0,.int .i64 0,.int .i64 0,.int .i64 0,.int .i64 0]) ?_ 1 _ rfl; (with_reducible repeat (first | refine blk_drewN ?_ _ | refine blk_drew ?_ | refine blk_alloc ?_ _)); refine blk_put (cs := #[.int .i64 0,.int .i64 0,.slice none 0 0,.slice none 0 0,.int .i64 0,.int .i64 0,.int .i64 0,.int .i64 0,.int .i64 0,.int .i64 0]) ?_ 0 _ rfl; (with_reducible repeat (first | refine blk_drewN ?_ _ | refine blk_drew ?_ | refine blk_alloc ?_ _)); exact BK223.out) hb); have n4_ := Aside0.mk (below_step bA hb); clear BK221; clear BK222; clear BK223; clear HB; have HO226 := n0_; have BK221 := n1_; have BK222 := n2_; have BK223 := n3_; have HB := n4_; clear n0_ n1_ n2_ n3_ n4_; (try clear hb); (try clear hb2); (try clear hk); (try clear hi); (try clear ho0); obtain ⟨Ao15,co15,eo15⟩ := Kd.R_slice HO226.out; subst eo15; have hcz16_0 : w14.cell? ⟨gb223,0,none⟩ = some (.int .i64 a0_0) := (blk_cell BK223.out 0).trans rfl; have hcz16_1 : w14.cell? ⟨gb223,1,none⟩ = some (.int .i64 a0_1) := (blk_cell BK223.out 1).trans rfl; have hcz16_2 : w14.cell? ⟨gb223,2,none⟩ = some (.slice none 0 0) := (blk_cell BK223.out 2).trans rfl; have hcz16_3 : w14.cell? ⟨gb223,3,none⟩ = some (.slice none 0 0) := (blk_cell BK223.out 3).trans rfl; have hcz16_4 : w14.cell? ⟨gb223,4,none⟩ = some (.int .i64 0) := (blk_cell BK223.out 4).trans rfl; have hcz16_5 : w14.cell? ⟨gb223,5,none⟩ = some (.int .i64 0) := (blk_cell BK223.out 5).trans rfl; have hcz16_6 : w14.cell? ⟨gb223,6,none⟩ = some (.int .i64 0) := (blk_cell BK223.out 6).trans rfl; have hcz16_7 : w14.cell? ⟨gb223,7,none⟩ = some (.int .i64 0) := (blk_cell BK223.out 7).trans rfl; have hcz16_8 : w14.cell? ⟨gb223,8,none⟩ = some (.int .i64 0) := (blk_cell BK223.out 8).trans rfl; have hcz16_9 : w14.cell? ⟨gb223,9,none⟩ = some (.int .i64 0) := (blk_cell BK223.out 9).trans rfl; have hfz16_0 := blk_frozen BK223.out 0; have hfz16_1 := blk_frozen BK223.out 1; have hfz16_2 := blk_frozen BK223.out 2; have hfz16_3 := blk_frozen BK223.out 3; have hfz16_4 := blk_frozen BK223.out 4; have hfz16_5 := blk_frozen BK223.out 5; have hfz16_6 := blk_frozen BK223.out 6; have hfz16_7 := blk_frozen BK223.out 7; have hfz16_8 := blk_frozen BK223.out 8; have hfz16_9 := blk_frozen BK223.out 9; have hcz17_0 : w14.cell? ⟨gb221,0,none⟩ = some (.int .i64 a0_0) := (blk_cell BK221.out 0).trans rfl; have hcz17_1 : w14.cell? ⟨gb221,1,none⟩ = some (.int .i64 a0_1) := (blk_cell BK221.out 1).trans rfl; have hcz17_2 : w14.cell? ⟨gb221,2,none⟩ = some (.slice A0_2 l0_2.length c0_2) := (blk_cell BK221.out 2).trans rfl; have hcz17_3 : w14.cell? ⟨gb221,3,none⟩ = some (.slice A0_3 l0_3.length c0_3) := (blk_cell BK221.out 3).trans rfl; have hcz17_4 : w14.cell? ⟨gb221,4,none⟩ = some (.int .i64 a0_4) := (blk_cell BK221.out 4).trans rfl; have hcz17_5 : w14.cell? ⟨gb221,5,none⟩ = some (.int .i64 a0_5) := (blk_cell BK221.out 5).trans rfl; have hcz17_6 : w14.cell? ⟨gb221,6,none⟩ = some (.int .i64 a0_6) := (blk_cell BK221.out 6).trans rfl; have hcz17_7 : w14.cell? ⟨gb221,7,none⟩ = some (.int .i64 a0_7) := (blk_cell BK221.out 7).trans rfl; have hcz17_8 : w14.cell? ⟨gb221,8,none⟩ = some (.int .i64 a0_8) := (blk_cell BK221.out 8).trans rfl; have hcz17_9 : w14.cell? ⟨gb221,9,none⟩ = some (.int .i64 a0_9) := (blk_cell BK221.out 9).trans rfl; have hfz17_0 := blk_frozen BK221.out 0; have hfz17_1 := blk_frozen BK221.out 1; have hfz17_2 := blk_frozen BK221.out 2; have hfz17_3 := blk_frozen BK221.out 3; have hfz17_4 := blk_frozen BK221.out 4; have hfz17_5 := blk_frozen BK221.out 5; have hfz17_6 := blk_frozen BK221.out 6; have hfz17_7 := blk_frozen BK221.out 7; have hfz17_8 := blk_frozen BK221.out 8; have hfz17_9 := blk_frozen BK221.out 9) | ((with_reducible refine gate_callee (f:=23) rfl ?_); refine goesL_ (some 16) rfl rfl Tryd.func23 (by kernel_rfl) rfl #[.slice A0_3 l0_3.length c0_3] rfl mA ?_; (with_reducible refine (laws_toTombS.calls k _ _ l0_3 t227 _ ?side1 ?side2 A3.out).mono ?_); (case side1 => exact Kd.C_below HR0_3.out bA); (case side2 => exact HC0_3.out); rintro e w18 ⟨v228,rfl,ho0,hb⟩; refine ⟨_,rfl,?_⟩; have n0_ := Aside0.mk (Kd.R_below (by (with_reducible repeat (first | apply Kd.R_alloc | apply Kd.R_drewN | apply Kd.R_drew)); exact (Kd.R_mono (Kd.R_far (p:=⟨gb223,2,none⟩) (Kd.R_types HO226.out BK223.out (by decide)) (fun _ hk => hk.2) (.slice Ao15 t224.length co15)) (fun _ h_ => h_.1))) hb); have n1_ := Aside0.mk (Kd.R_lower ho0 (below_size bA)); have n2_ := Aside0.mk (blk_below (g:=gb221) (o:=.cells #[.int .i64 a0_0,.int .i64 a0_1,.slice A0_2 l0_2.length c0_2,.slice A0_3 l0_3.length c0_3,.int .i64 a0_4,.int .i64 a0_5,.int .i64 a0_6,.int .i64 a0_7,.int .i64 a0_8,.int .i64 a0_9] 26 (0,0)) (kF BK221.out) hb); have n3_ := Aside0.mk (blk_below (g:=gb222) (o:=.cells #[.int .i64 0,.int .i64 0,.slice none 0 0,.slice none 0 0,.int .i64 0,.int .i64 0,.int .i64 0,.int .i64 0,.int .i64 0,.int .i64 0] 32 (0,0)) (kF BK222.out) hb); have n4_ := Aside0.mk (blk_below (g:=gb223) (o:=.cells #[.int .i64 a0_0,.int .i64 a0_1,.slice Ao15 t224.length co15,.slice none 0 0,.int .i64 0,.int .i64 0,.int .i64 0,.int .i64 0,.int .i64 0,.int .i64 0] 32 (0,0)) (by (with_reducible repeat (first | refine blk_drewN ?_ _ | refine blk_drew ?_ | refine blk_alloc ?_ _)); refine blk_put (cs := #[.int .i64 a0_0,.int .i64 a0_1,.slice none 0 0,.slice none 0 0,.int .i64 0,.int .i64 0,.int .i64 0,.int .i64 0,.int .i64 0,.int .i64 0]) ?_ 2 _ rfl; (with_reducible repeat (first | refine blk_drewN ?_ _ | refine blk_drew ?_ | refine blk_alloc ?_ _)); exact BK223.out) hb); have n5_ := Aside0.mk (below_step bA hb); clear HO226; clear BK221; clear BK222; clear BK223; clear HB; have HO226 := n0_; have HO229 := n1_; have BK221 := n2_; have BK222 := n3_; have BK223 := n4_; have HB := n5_; clear n0_ n1_ n2_ n3_ n4_ n5_; (try clear hb); (try clear hb2); (try clear hk); (try clear hi); (try clear ho0); obtain ⟨Ao19,co19,eo19⟩ := Kd.R_slice HO229.out; subst eo19; have hcz20_0 : w18.cell? ⟨gb223,0,none⟩ = some (.int .i64 a0_0) := (blk_cell BK223.out 0).trans rfl; have hcz20_1 : w18.cell? ⟨gb223,1,none⟩ = some (.int .i64 a0_1) := (blk_cell BK223.out 1).trans rfl; have hcz20_2 : w18.cell? ⟨gb223,2,none⟩ = some (.slice Ao15 t224.length co15) := (blk_cell BK223.out 2).trans rfl; have hcz20_3 : w18.cell? ⟨gb223,3,none⟩ = some (.slice none 0 0) := (blk_cell BK223.out 3).trans rfl; have hcz20_4 : w18.cell? ⟨gb223,4,none⟩ = some (.int .i64 0) := (blk_cell BK223.out 4).trans rfl; have hcz20_5 : w18.cell? ⟨gb223,5,none⟩ = some (.int .i64 0) := (blk_cell BK223.out 5).trans rfl; have hcz20_6 : w18.cell? ⟨gb223,6,none⟩ = some (.int .i64 0) := (blk_cell BK223.out 6).trans rfl; have hcz20_7 : w18.cell? ⟨gb223,7,none⟩ = some (.int .i64 0) := (blk_cell BK223.out 7).trans rfl; have hcz20_8 : w18.cell? ⟨gb223,8,none⟩ = some (.int .i64 0) := (blk_cell BK223.out 8).trans rfl; have hcz20_9 : w18.cell? ⟨gb223,9,none⟩ = some (.int .i64 0) := (blk_cell BK223.out 9).trans rfl; have hfz20_0 := blk_frozen BK223.out 0; have hfz20_1 := blk_frozen BK223.out 1; have hfz20_2 := blk_frozen BK223.out 2; have hfz20_3 := blk_frozen BK223.out 3; have hfz20_4 := blk_frozen BK223.out 4; have hfz20_5 := blk_frozen BK223.out 5; have hfz20_6 := blk_frozen BK223.out 6; have hfz20_7 := blk_frozen BK223.out 7; have hfz20_8 := blk_frozen BK223.out 8; have hfz20_9 := blk_frozen BK223.out 9; have hcz21_0 : w18.cell? ⟨gb221,0,none⟩ = some (.int .i64 a0_0) := (blk_cell BK221.out 0).trans rfl; have hcz21_1 : w18.cell? ⟨gb221,1,none⟩ = some (.int .i64 a0_1) := (blk_cell BK221.out 1).trans rfl; have hcz21_2 : w18.cell? ⟨gb221,2,none⟩ = some (.slice A0_2 l0_2.length c0_2) := (blk_cell BK221.out 2).trans rfl; have hcz21_3 : w18.cell? ⟨gb221,3,none⟩ = some (.slice A0_3 l0_3.length c0_3) := (blk_cell BK221.out 3).trans rfl; have hcz21_4 : w18.cell? ⟨gb221,4,none⟩ = some (.int .i64 a0_4) := (blk_cell BK221.out 4).trans rfl; have hcz21_5 : w18.cell? ⟨gb221,5,none⟩ = some (.int .i64 a0_5) := (blk_cell BK221.out 5).trans rfl; have hcz21_6 : w18.cell? ⟨gb221,6,none⟩ = some (.int .i64 a0_6) := (blk_cell BK221.out 6).trans rfl; have hcz21_7 : w18.cell? ⟨gb221,7,none⟩ = some (.int .i64 a0_7) := (blk_cell BK221.out 7).trans rfl; have hcz21_8 : w18.cell? ⟨gb221,8,none⟩ = some (.int .i64 a0_8) := (blk_cell BK221.out 8).trans rfl; have hcz21_9 : w18.cell? ⟨gb221,9,none⟩ = some (.int .i64 a0_9) := (blk_cell BK221.out 9).trans rfl; have hfz21_0 := blk_frozen BK221.out 0; have hfz21_1 := blk_frozen BK221.out 1; have hfz21_2 := blk_frozen BK221.out 2; have hfz21_3 := blk_frozen BK221.out 3; have hfz21_4 := blk_frozen BK221.out 4; have hfz21_5 := blk_frozen BK221.out 5; have hfz21_6 := blk_frozen BK221.out 6; have hfz21_7 := blk_frozen BK221.out 7; have hfz21_8 := blk_frozen BK221.out 8; have hfz21_9 := blk_frozen BK221.out 9) | ((with_reducible refine gate_callee (f:=24) rfl ?_); refine goesL_ (some 20) rfl rfl Tryd.func24 (by kernel_rfl) rfl #[.agg #[.int .i64 a0_4,.int .i64 a0_5,.int .i64 a0_6]] rfl mA ?_; (with_reducible refine (laws_toIntA3.calls a0_4 a0_5 a0_6 t230 t231 t232 _ A4.out).mono ?_); rintro e w22 ⟨rfl,hb⟩; refine ⟨_,rfl,?_⟩; have n0_ := Aside0.mk (Kd.R_below (by (with_reducible repeat (first | apply Kd.R_alloc | apply Kd.R_drewN | apply Kd.R_drew)); exact (Kd.R_mono (Kd.R_far (p:=⟨gb223,3,none⟩) (Kd.R_types HO226.out BK223.out (by decide)) (fun _ hk => hk.2) (.slice Ao19 t227.length co19)) (fun _ h_ => h_.1))) hb); have n1_ := Aside0.mk (Kd.R_below (by (with_reducible repeat (first | apply Kd.R_alloc | apply Kd.R_drewN | apply Kd.R_drew)); exact (Kd.R_mono (Kd.R_far (p:=⟨gb223,3,none⟩) (Kd.R_types HO229.out BK223.out (by decide)) (fun _ hk => hk.2) (.slice Ao19 t227.length co19)) (fun _ h_ => h_.1))) hb); have n2_ := Aside0.mk (blk_below (g:=gb221) (o:=.cells #[.int .i64 a0_0,.int .i64 a0_1,.slice A0_2 l0_2.length c0_2,.slice A0_3 l0_3.length c0_3,.int .i64 a0_4,.int .i64 a0_5,.int .i64 a0_6,.int .i64 a0_7,.int .i64 a0_8,.int .i64 a0_9] 26 (0,0)) (kF BK221.out) hb); have n3_ := Aside0.mk (blk_below (g:=gb222) (o:=.cells #[.int .i64 0,.int .i64 0,.slice none 0 0,.slice none 0 0,.int .i64 0,.int .i64 0,.int .i64 0,.int .i64 0,.int .i64 0,.int .i64 0] 32 (0,0)) (kF BK222.out) hb); have n4_ := Aside0.mk (blk_below (g:=gb223) (o:=.cells #[.int .i64 a0_0,.int .i64 a0_1,.slice Ao15 t224.length co15,.slice Ao19 t227.length co19,.int .i64 0,.int .i64 0,.int .i64 0,.int .i64 0,.int .i64 0,.int .i64 0] 32 (0,0)) (by (with_reducible repeat (first | refine blk_drewN ?_ _ | refine blk_drew ?_ | refine blk_alloc ?_ _)); refine blk_put (cs := #[.int .i64 a0_0,.int .i64 a0_1,.slice Ao15 t224.length co15,.slice none 0 0,.int .i64 0,.int .i64 0,.int .i64 0,.int .i64 0,.int .i64 0,.int .i64 0]) ?_ 3 _ rfl; (with_reducible repeat (first | refine blk_drewN ?_ _ | refine blk_drew ?_ | refine blk_alloc ?_ _)); exact BK223.out) hb); have n5_ := Aside0.mk (below_step bA hb); clear HO226; clear HO229; clear BK221; clear BK222; clear BK223; clear HB; have HO226 := n0_; have HO229 := n1_; have BK221 := n2_; have BK222 := n3_; have BK223 := n4_; have HB := n5_; clear n0_ n1_ n2_ n3_ n4_ n5_; (try clear hb); (try clear hb2); (try clear hk); (try clear hi); have hcz23_0 : w22.cell? ⟨gb223,0,none⟩ = some (.int .i64 a0_0) := (blk_cell BK223.out 0).trans rfl; have hcz23_1 : w22.cell? ⟨gb223,1,none⟩ = some (.int .i64 a0_1) := (blk_cell BK223.out 1).trans rfl; have hcz23_2 : w22.cell? ⟨gb223,2,none⟩ = some (.slice Ao15 t224.length co15) := (blk_cell BK223.out 2).trans rfl; have hcz23_3 : w22.cell? ⟨gb223,3,none⟩ = some (.slice Ao19 t227.length co19) := (blk_cell BK223.out 3).trans rfl; have hcz23_4 : w22.cell? ⟨gb223,4,none⟩ = some (.int .i64 0) := (blk_cell BK223.out 4).trans rfl; have hcz23_5 : w22.cell? ⟨gb223,5,none⟩ = some (.int .i64 0) := (blk_cell BK223.out 5).trans rfl; have hcz23_6 : w22.cell? ⟨gb223,6,none⟩ = some (.int .i64 0) := (blk_cell BK223.out 6).trans rfl; have hcz23_7 : w22.cell? ⟨gb223,7,none⟩ = some (.int .i64 0) := (blk_cell BK223.out 7).trans rfl; have hcz23_8 : w22.cell? ⟨gb223,8,none⟩ = some (.int .i64 0) := (blk_cell BK223.out 8).trans rfl; have hcz23_9 : w22.cell? ⟨gb223,9,none⟩ = some (.int .i64 0) := (blk_cell BK223.out 9).trans rfl; have hfz23_0 := blk_frozen BK223.out 0; have hfz23_1 := blk_frozen BK223.out 1; have hfz23_2 := blk_frozen BK223.out 2; have hfz23_3 := blk_frozen BK223.out 3; have hfz23_4 := blk_frozen BK223.out 4; have hfz23_5 := blk_frozen BK223.out 5; have hfz23_6 := blk_frozen BK223.out 6; have hfz23_7 := blk_frozen BK223.out 7; have hfz23_8 := blk_frozen BK223.out 8; have hfz23_9 := blk_frozen BK223.out 9; have hcz24_0 : w22.cell? ⟨gb221,0,none⟩ = some (.int .i64 a0_0) := (blk_cell BK221.out 0).trans rfl; have hcz24_1 : w22.cell? ⟨gb221,1,none⟩ = some (.int .i64 a0_1) := (blk_cell BK221.out 1).trans rfl; have hcz24_2 : w22.cell? ⟨gb221,2,none⟩ = some (.slice A0_2 l0_2.length c0_2) := (blk_cell BK221.out 2).trans rfl; have hcz24_3 : w22.cell? ⟨gb221,3,none⟩ = some (.slice A0_3 l0_3.length c0_3) := (blk_cell BK221.out 3).trans rfl; have hcz24_4 : w22.cell? ⟨gb221,4,none⟩ = some (.int .i64 a0_4) := (blk_cell BK221.out 4).trans rfl; have hcz24_5 : w22.cell? ⟨gb221,5,none⟩ = some (.int .i64 a0_5) := (blk_cell BK221.out 5).trans rfl; have hcz24_6 : w22.cell? ⟨gb221,6,none⟩ = some (.int .i64 a0_6) := (blk_cell BK221.out 6).trans rfl; have hcz24_7 : w22.cell? ⟨gb221,7,none⟩ = some (.int .i64 a0_7) := (blk_cell BK221.out 7).trans rfl; have hcz24_8 : w22.cell? ⟨gb221,8,none⟩ = some (.int .i64 a0_8) := (blk_cell BK221.out 8).trans rfl; have hcz24_9 : w22.cell? ⟨gb221,9,none⟩ = some (.int .i64 a0_9) := (blk_cell BK221.out 9).trans rfl; have hfz24_0 := blk_frozen BK221.out 0; have hfz24_1 := blk_frozen BK221.out 1; have hfz24_2 := blk_frozen BK221.out 2; have hfz24_3 := blk_frozen BK221.out 3; have hfz24_4 := blk_frozen BK221.out 4; have hfz24_5 := blk_frozen BK221.out 5; have hfz24_6 := blk_frozen BK221.out 6; have hfz24_7 := blk_frozen BK221.out 7; have hfz24_8 := blk_frozen BK221.out 8; have hfz24_9 := blk_frozen BK221.out 9) | ((with_reducible refine gate_callee (f:=24) rfl ?_); refine goesL_ (some 24) rfl rfl Tryd.func24 (by kernel_rfl) rfl #[.agg #[.int .i64 a0_7,.int .i64 a0_8,.int .i64 a0_9]] rfl mA ?_; (with_reducible refine (laws_toIntA3.calls a0_7 a0_8 a0_9 t233 t234 t235 _ A5.out).mono ?_); rintro e w25 ⟨rfl,hb⟩; refine ⟨_,rfl,?_⟩; have n0_ := Aside0.mk (Kd.R_below (by (with_reducible repeat (first | apply Kd.R_alloc | apply Kd.R_drewN | apply Kd.R_drew)); exact (Kd.R_mono (Kd.R_far (p:=⟨gb223,6,none⟩) (Kd.R_far (p:=⟨gb223,5,none⟩) (Kd.R_far (p:=⟨gb223,4,none⟩) (Kd.R_types HO226.out BK223.out (by decide)) (fun _ hk => hk.2) (.int .i64 t230)) (fun _ hk => hk.2) (.int .i64 t231)) (fun _ hk => hk.2) (.int .i64 t232)) (fun _ h_ => h_.1))) hb); have n1_ := Aside0.mk (Kd.R_below (by (with_reducible repeat (first | apply Kd.R_alloc | apply Kd.R_drewN | apply Kd.R_drew)); exact (Kd.R_mono (Kd.R_far (p:=⟨gb223,6,none⟩) (Kd.R_far (p:=⟨gb223,5,none⟩) (Kd.R_far (p:=⟨gb223,4,none⟩) (Kd.R_types HO229.out BK223.out (by decide)) (fun _ hk => hk.2) (.int .i64 t230)) (fun _ hk => hk.2) (.int .i64 t231)) (fun _ hk => hk.2) (.int .i64 t232)) (fun _ h_ => h_.1))) hb); have n2_ := Aside0.mk (blk_below (g:=gb221) (o:=.cells #[.int .i64 a0_0,.int .i64 a0_1,.slice A0_2 l0_2.length c0_2,.slice A0_3 l0_3.length c0_3,.int .i64 a0_4,.int .i64 a0_5,.int .i64 a0_6,.int .i64 a0_7,.int .i64 a0_8,.int .i64 a0_9] 26 (0,0)) (kF BK221.out) hb); have n3_ := Aside0.mk (blk_below (g:=gb222) (o:=.cells #[.int .i64 0,.int .i64 0,.slice none 0 0,.slice none 0 0,.int .i64 0,.int .i64 0,.int .i64 0,.int .i64 0,.int .i64 0,.int .i64 0] 32 (0,0)) (kF BK222.out) hb); have n4_ := Aside0.mk (blk_below (g:=gb223) (o:=.cells #[.int .i64 a0_0,.int .i64 a0_1,.slice Ao15 t224.length co15,.slice Ao19 t227.length co19,.int .i64 t230,.int .i64 t231,.int .i64 t232,.int .i64 0,.int .i64 0,.int .i64 0] 32 (0,0)) (by (with_reducible repeat (first | refine blk_drewN ?_ _ | refine blk_drew ?_ | refine blk_alloc ?_ _)); refine blk_put (cs := #[.int .i64 a0_0,.int .i64 a0_1,.slice Ao15 t224.length co15,.slice Ao19 t227.length co19,.int .i64 t230,.int .i64 t231,.int .i64 0,.int .i64 0,.int .i64 0,.int .i64 0]) ?_ 6 _ rfl; (with_reducible repeat (first | refine blk_drewN ?_ _ | refine blk_drew ?_ | refine blk_alloc ?_ _)); refine blk_put (cs := #[.int .i64 a0_0,.int .i64 a0_1,.slice Ao15 t224.length co15,.slice Ao19 t227.length co19,.int .i64 t230,.int .i64 0,.int .i64 0,.int .i64 0,.int .i64 0,.int .i64 0]) ?_ 5 _ rfl; (with_reducible repeat (first | refine blk_drewN ?_ _ | refine blk_drew ?_ | refine blk_alloc ?_ _)); refine blk_put (cs := #[.int .i64 a0_0,.int .i64 a0_1,.slice Ao15 t224.length co15,.slice Ao19 t227.length co19,.int .i64 0,.int .i64 0,.int .i64 0,.int .i64 0,.int .i64 0,.int .i64 0]) ?_ 4 _ rfl; (with_reducible repeat (first | refine blk_drewN ?_ _ | refine blk_drew ?_ | refine blk_alloc ?_ _)); exact BK223.out) hb); have n5_ := Aside0.mk (below_step bA hb); clear HO226; clear HO229; clear BK221; clear BK222; clear BK223; clear HB; have HO226 := n0_; have HO229 := n1_; have BK221 := n2_; have BK222 := n3_; have BK223 := n4_; have HB := n5_; clear n0_ n1_ n2_ n3_ n4_ n5_; (try clear hb); (try clear hb2); (try clear hk); (try clear hi); have hcz26_0 : w25.cell? ⟨gb223,0,none⟩ = some (.int .i64 a0_0) := (blk_cell BK223.out 0).trans rfl; have hcz26_1 : w25.cell? ⟨gb223,1,none⟩ = some (.int .i64 a0_1) := (blk_cell BK223.out 1).trans rfl; have hcz26_2 : w25.cell? ⟨gb223,2,none⟩ = some (.slice Ao15 t224.length co15) := (blk_cell BK223.out 2).trans rfl; have hcz26_3 : w25.cell? ⟨gb223,3,none⟩ = some (.slice Ao19 t227.length co19) := (blk_cell BK223.out 3).trans rfl; have hcz26_4 : w25.cell? ⟨gb223,4,none⟩ = some (.int .i64 t230) := (blk_cell BK223.out 4).trans rfl; have hcz26_5 : w25.cell? ⟨gb223,5,none⟩ = some (.int .i64 t231) := (blk_cell BK223.out 5).trans rfl; have hcz26_6 : w25.cell? ⟨gb223,6,none⟩ = some (.int .i64 t232) := (blk_cell BK223.out 6).trans rfl; have hcz26_7 : w25.cell? ⟨gb223,7,none⟩ = some (.int .i64 0) := (blk_cell BK223.out 7).trans rfl; have hcz26_8 : w25.cell? ⟨gb223,8,none⟩ = some (.int .i64 0) := (blk_cell BK223.out 8).trans rfl; have hcz26_9 : w25.cell? ⟨gb223,9,none⟩ = some (.int .i64 0) := (blk_cell BK223.out 9).trans rfl; have hfz26_0 := blk_frozen BK223.out 0; have hfz26_1 := blk_frozen BK223.out 1; have hfz26_2 := blk_frozen BK223.out 2; have hfz26_3 := blk_frozen BK223.out 3; have hfz26_4 := blk_frozen BK223.out 4; have hfz26_5 := blk_frozen BK223.out 5; have hfz26_6 := blk_frozen BK223.out 6; have hfz26_7 := blk_frozen BK223.out 7; have hfz26_8 := blk_frozen BK223.out 8; have hfz26_9 := blk_frozen BK223.out 9; have hcz27_0 : w25.cell? ⟨gb222,0,none⟩ = some (.int .i64 0) := (blk_cell BK222.out 0).trans rfl; have hcz27_1 : w25.cell? ⟨gb222,1,none⟩ = some (.int .i64 0) := (blk_cell BK222.out 1).trans rfl; have hcz27_2 : w25.cell? ⟨gb222,2,none⟩ = some (.slice none 0 0) := (blk_cell BK222.out 2).trans rfl; have hcz27_3 : w25.cell? ⟨gb222,3,none⟩ = some (.slice none 0 0) := (blk_cell BK222.out 3).trans rfl; have hcz27_4 : w25.cell? ⟨gb222,4,none⟩ = some (.int .i64 0) := (blk_cell BK222.out 4).trans rfl; have hcz27_5 : w25.cell? ⟨gb222,5,none⟩ = some (.int .i64 0) := (blk_cell BK222.out 5).trans rfl; have hcz27_6 : w25.cell? ⟨gb222,6,none⟩ = some (.int .i64 0) := (blk_cell BK222.out 6).trans rfl; have hcz27_7 : w25.cell? ⟨gb222,7,none⟩ = some (.int .i64 0) := (blk_cell BK222.out 7).trans rfl; have hcz27_8 : w25.cell? ⟨gb222,8,none⟩ = some (.int .i64 0) := (blk_cell BK222.out 8).trans rfl; have hcz27_9 : w25.cell? ⟨gb222,9,none⟩ = some (.int .i64 0) := (blk_cell BK222.out 9).trans rfl; have hfz27_0 := blk_frozen BK222.out 0; have hfz27_1 := blk_frozen BK222.out 1; have hfz27_2 := blk_frozen BK222.out 2; have hfz27_3 := blk_frozen BK222.out 3; have hfz27_4 := blk_frozen BK222.out 4; have hfz27_5 := blk_frozen BK222.out 5; have hfz27_6 := blk_frozen BK222.out 6; have hfz27_7 := blk_frozen BK222.out 7; have hfz27_8 := blk_frozen BK222.out 8; have hfz27_9 := blk_frozen BK222.out 9))
 refine bodyPost_ret (results_cell_row rfl _ _ gb222 32 #[.int .i64 a0_0,.int .i64 a0_1,.slice Ao15 t224.length co15,.slice Ao19 t227.length co19,.int .i64 t230,.int .i64 t231,.int .i64 t232,.int .i64 t233,.int .i64 t234,.int .i64 t235] (0,0) _ rfl (by (with_reducible repeat (first | refine blk_drewN ?_ _ | refine blk_drew ?_ | refine blk_alloc ?_ _)); refine blk_put (cs := #[.int .i64 a0_0,.int .i64 a0_1,.slice Ao15 t224.length co15,.slice Ao19 t227.length co19,.int .i64 t230,.int .i64 t231,.int .i64 t232,.int .i64 t233,.int .i64 t234,.int .i64 0]) ?_ 9 _ rfl; (with_reducible repeat (first | refine blk_drewN ?_ _ | refine blk_drew ?_ | refine blk_alloc ?_ _)); refine blk_put (cs := #[.int .i64 a0_0,.int .i64 a0_1,.slice Ao15 t224.length co15,.slice Ao19 t227.length co19,.int .i64 t230,.int .i64 t231,.int .i64 t232,.int .i64 t233,.int .i64 0,.int .i64 0]) ?_ 8 _ rfl; (with_reducible repeat (first | refine blk_drewN ?_ _ | refine blk_drew ?_ | refine blk_alloc ?_ _)); refine blk_put (cs := #[.int .i64 a0_0,.int .i64 a0_1,.slice Ao15 t224.length co15,.slice Ao19 t227.length co19,.int .i64 t230,.int .i64 t231,.int .i64 t232,.int .i64 0,.int .i64 0,.int .i64 0]) ?_ 7 _ rfl; (with_reducible repeat (first | refine blk_drewN ?_ _ | refine blk_drew ?_ | refine blk_alloc ?_ _)); refine blk_put (cs := #[.int .i64 a0_0,.int .i64 a0_1,.slice Ao15 t224.length co15,.slice Ao19 t227.length co19,.int .i64 t230,.int .i64 t231,.int .i64 0,.int .i64 0,.int .i64 0,.int .i64 0]) ?_ 6 _ rfl; (with_reducible repeat (first | refine blk_drewN ?_ _ | refine blk_drew ?_ | refine blk_alloc ?_ _)); refine blk_put (cs := #[.int .i64 a0_0,.int .i64 a0_1,.slice Ao15 t224.length co15,.slice Ao19 t227.length co19,.int .i64 t230,.int .i64 0,.int .i64 0,.int .i64 0,.int .i64 0,.int .i64 0]) ?_ 5 _ rfl; (with_reducible repeat (first | refine blk_drewN ?_ _ | refine blk_drew ?_ | refine blk_alloc ?_ _)); refine blk_put (cs := #[.int .i64 a0_0,.int .i64 a0_1,.slice Ao15 t224.length co15,.slice Ao19 t227.length co19,.int .i64 0,.int .i64 0,.int .i64 0,.int .i64 0,.int .i64 0,.int .i64 0]) ?_ 4 _ rfl; (with_reducible repeat (first | refine blk_drewN ?_ _ | refine blk_drew ?_ | refine blk_alloc ?_ _)); refine blk_put (cs := #[.int .i64 a0_0,.int .i64 a0_1,.slice Ao15 t224.length co15,.slice none 0 0,.int .i64 0,.int .i64 0,.int .i64 0,.int .i64 0,.int .i64 0,.int .i64 0]) ?_ 3 _ rfl; (with_reducible repeat (first | refine blk_drewN ?_ _ | refine blk_drew ?_ | refine blk_alloc ?_ _)); refine blk_put (cs := #[.int .i64 a0_0,.int .i64 a0_1,.slice none 0 0,.slice none 0 0,.int .i64 0,.int .i64 0,.int .i64 0,.int .i64 0,.int .i64 0,.int .i64 0]) ?_ 2 _ rfl; (with_reducible repeat (first | refine blk_drewN ?_ _ | refine blk_drew ?_ | refine blk_alloc ?_ _)); refine blk_put (cs := #[.int .i64 a0_0,.int .i64 0,.slice none 0 0,.slice none 0 0,.int .i64 0,.int .i64 0,.int .i64 0,.int .i64 0,.int .i64 0,.int .i64 0]) ?_ 1 _ rfl; (with_reducible repeat (first | refine blk_drewN ?_ _ | refine blk_drew ?_ | refine blk_alloc ?_ _)); refine blk_put (cs := #[.int .i64 0,.int .i64 0,.slice none 0 0,.slice none 0 0,.int .i64 0,.int .i64 0,.int .i64 0,.int .i64 0,.int .i64 0,.int .i64 0]) ?_ 0 _ rfl; (with_reducible repeat (first | refine blk_drewN ?_ _ | refine blk_drew ?_ | refine blk_alloc ?_ _)); refine blk_far ?_ NB222_223.out _; (with_reducible repeat (first | refine blk_drewN ?_ _ | refine blk_drew ?_ | refine blk_alloc ?_ _)); refine blk_far ?_ NB222_223.out _; (with_reducible repeat (first | refine blk_drewN ?_ _ | refine blk_drew ?_ | refine blk_alloc ?_ _)); refine blk_far ?_ NB222_223.out _; (with_reducible repeat (first | refine blk_drewN ?_ _ | refine blk_drew ?_ | refine blk_alloc ?_ _)); exact BK222.out) Tryd.underlying32 rfl (by kernel_rfl)) rfl ?_
 exact ⟨_,_,by first | rfl | (simp [errW_none,errW_some] <;> rfl) | (simp [*,errW_none,errW_some] <;> rfl),by (with_reducible repeat (first | apply Kd.R_alloc | apply Kd.R_drewN | apply Kd.R_drew)); exact Kd.R_mono (Kd.R_far (p:=⟨gb222,9,none⟩) (Kd.R_far (p:=⟨gb222,8,none⟩) (Kd.R_far (p:=⟨gb222,7,none⟩) (Kd.R_far (p:=⟨gb222,6,none⟩) (Kd.R_far (p:=⟨gb222,5,none⟩) (Kd.R_far (p:=⟨gb222,4,none⟩) (Kd.R_far (p:=⟨gb222,3,none⟩) (Kd.R_far (p:=⟨gb222,2,none⟩) (Kd.R_far (p:=⟨gb222,1,none⟩) (Kd.R_far (p:=⟨gb222,0,none⟩) (Kd.R_far (p:=⟨gb223,9,none⟩) (Kd.R_far (p:=⟨gb223,8,none⟩) (Kd.R_far (p:=⟨gb223,7,none⟩) (Kd.R_types (Kd.R_types HO226.out BK223.out (by decide)) BK222.out (by decide)) (fun _ hk => hk.1.2) (.int .i64 t233)) (fun _ hk => hk.1.2) (.int .i64 t234)) (fun _ hk => hk.1.2) (.int .i64 t235)) (fun _ hk => hk.2) (.int .i64 a0_0)) (fun _ hk => hk.2) (.int .i64 a0_1)) (fun _ hk => hk.2) (.slice Ao15 t224.length co15)) (fun _ hk => hk.2) (.slice Ao19 t227.length co19)) (fun _ hk => hk.2) (.int .i64 t230)) (fun _ hk => hk.2) (.int .i64 t231)) (fun _ hk => hk.2) (.int .i64 t232)) (fun _ hk => hk.2) (.int .i64 t233)) (fun _ hk => hk.2) (.int .i64 t234)) (fun _ hk => hk.2) (.int .i64 t235)) (fun _ hk => trivial),by (with_reducible repeat (first | apply Kd.R_alloc | apply Kd.R_drewN | apply Kd.R_drew)); exact Kd.R_mono (Kd.R_far (p:=⟨gb222,9,none⟩) (Kd.R_far (p:=⟨gb222,8,none⟩) (Kd.R_far (p:=⟨gb222,7,none⟩) (Kd.R_far (p:=⟨gb222,6,none⟩) (Kd.R_far (p:=⟨gb222,5,none⟩) (Kd.R_far (p:=⟨gb222,4,none⟩) (Kd.R_far (p:=⟨gb222,3,none⟩) (Kd.R_far (p:=⟨gb222,2,none⟩) (Kd.R_far (p:=⟨gb222,1,none⟩) (Kd.R_far (p:=⟨gb222,0,none⟩) (Kd.R_far (p:=⟨gb223,9,none⟩) (Kd.R_far (p:=⟨gb223,8,none⟩) (Kd.R_far (p:=⟨gb223,7,none⟩) (Kd.R_types (Kd.R_types HO229.out BK223.out (by decide)) BK222.out (by decide)) (fun _ hk => hk.1.2) (.int .i64 t233)) (fun _ hk => hk.1.2) (.int .i64 t234)) (fun _ hk => hk.1.2) (.int .i64 t235)) (fun _ hk => hk.2) (.int .i64 a0_0)) (fun _ hk => hk.2) (.int .i64 a0_1)) (fun _ hk => hk.2) (.slice Ao15 t224.length co15)) (fun _ hk => hk.2) (.slice Ao19 t227.length co19)) (fun _ hk => hk.2) (.int .i64 t230)) (fun _ hk => hk.2) (.int .i64 t231)) (fun _ hk => hk.2) (.int .i64 t232)) (fun _ hk => hk.2) (.int .i64 t233)) (fun _ hk => hk.2) (.int .i64 t234)) (fun _ hk => hk.2) (.int .i64 t235)) (fun _ hk => trivial),bA⟩

/-! ### impl_within: function 26 -/
def impl_within.f (a0 : Int) (a1 : Int) (a2 : Int) : Option (Bool) := if a1 ≤ a0 then (some (decide (a0 ≤ a2))) else (some false)
set_option maxHeartbeats 8000000 in
set_option maxRecDepth 100000 in
theorem impl_within.calls (a0 : Int) (a1 : Int) (a2 : Int) (r : Bool) (w : World) (h : impl_within.f a0 a1 a2 = some r) :
  Calls Tryd.prog 26 #[.int .i64 a0,.int .i64 a1,.int .i64 a2] w fun e w' => e = .returned (.bool r) ∧ Drawn0 w w' := by
 have H : (if a1 ≤ a0 then (some (decide (a0 ≤ a2))) else (some false)) = some r := h
 clear h
 by_cases c4 : a1 ≤ a0
 ·rw [if_pos c4] at H
  have c4b0 : decide (a1 ≤ a0) = true := decide_eq_true c4
  clear c4
  obtain rfl := Option.some.inj H
  go_enter Tryd.func26,Tryd.ntmps26
  go_wp2
  go_ret
  exact ⟨by first | rfl | (simp; done) | (simp [*]; done),by repeat (first | exact Drawn0.refl _ | apply Drawn0.step)⟩
 ·rw [if_neg c4] at H
  have c4b0 : decide (a1 ≤ a0) = false := decide_eq_false c4
  clear c4
  obtain rfl := Option.some.inj H
  go_enter Tryd.func26,Tryd.ntmps26
  go_wp2
  go_ret
  exact ⟨by first | rfl | (simp; done) | (simp [*]; done),by repeat (first | exact Drawn0.refl _ | apply Drawn0.step)⟩

/-! ### impl_isSix: function 25 -/
def impl_isSix.f (a0 : Int) : Option (Bool) := (impl_within.f a0 0 999999).bind fun t236 => (some t236)
set_option maxHeartbeats 8000000 in
set_option maxRecDepth 100000 in
theorem impl_isSix.calls (a0 : Int) (r : Bool) (w : World) (h : impl_isSix.f a0 = some r) :
  Calls Tryd.prog 25 #[.int .i64 a0] w fun e w' => e = .returned (.bool r) ∧ Drawn0 w w' := by
 have H : ((impl_within.f a0 0 999999).bind fun t236 => (some t236)) = some r := h
 clear h
 replace H := Option.bind_eq_some_iff.mp H
 obtain ⟨t236,A20,H⟩ := H
 try dsimp only at H
 have A2 := Aside0.mk A20
 clear A20
 obtain rfl := Option.some.inj H
 go_enter Tryd.func25,Tryd.ntmps25
 go_wp2_with (first | ((with_reducible refine gate_callee (f:=26) rfl ?_); refine goesL_ (some 4) rfl rfl Tryd.func26 (by kernel_rfl) rfl #[.int .i64 a0,.int .i64 0,.int .i64 999999] rfl mA ?_; (with_reducible refine (impl_within.calls a0 0 999999 t236 _ A2.out).mono ?_); rintro e w' ⟨rfl,⟨nd,rfl⟩⟩; refine ⟨_,rfl,?_⟩))
 go_ret
 exact ⟨by first | rfl | (simp; done) | (simp [*]; done),by repeat (first | exact Drawn0.refl _ | apply Drawn0.step)⟩

/-! ### impl_dataPrefixes: function 54 -/
def impl_dataPrefixes.f  : Option (List ByteArray) := some (([(⟨#[114,97,119,47]⟩ : ByteArray),(⟨#[116,49,47]⟩ : ByteArray),(⟨#[116,50,47]⟩ : ByteArray)] : List ByteArray))
set_option maxHeartbeats 8000000 in
set_option maxRecDepth 100000 in
theorem impl_dataPrefixes.calls  (r : List ByteArray) (w : World) (h : impl_dataPrefixes.f  = some r) :
  Calls Tryd.prog 54 #[] w fun e w' => ∃ v0_ : Value,e = .returned (v0_) ∧ Kd.R Kd.string 9 w' w.heap.size (fun _ => True) v0_ r ∧ Below w.heap.size w w' := by
 have HB := Aside0.mk (Below.refl w.heap.size w)
 have H : (some (([(⟨#[114,97,119,47]⟩ : ByteArray),(⟨#[116,49,47]⟩ : ByteArray),(⟨#[116,50,47]⟩ : ByteArray)] : List ByteArray))) = some r := h
 clear h
 obtain ⟨y237,hy237⟩ : ∃ y_ : List ByteArray,y_ = (([(⟨#[114,97,119,47]⟩ : ByteArray),(⟨#[116,49,47]⟩ : ByteArray),(⟨#[116,50,47]⟩ : ByteArray)] : List ByteArray)) := ⟨_,rfl⟩
 replace H : (some y237) = some r := by first | (rw [hy237]; with_reducible exact H) | (have H2_ := (Option.bind_some _ _).symm.trans H; rw [hy237]; with_reducible exact H2_) | (have H2_ := (Option.bind_some _ _).symm.trans H; with_reducible exact H2_) | with_reducible exact H | (rw [hy237]; exact H) | exact H
 have Ny237 := Aside0.mk hy237
 clear hy237
 obtain rfl := Option.some.inj H
 go_enter Tryd.func54,Tryd.ntmps54
 go_wp2_with (first | ((with_reducible refine gate_dst (N:=1) rfl ?_); refine Kd.R_lit Kd.string _ 9 ?hg (N:=1) ?hd (xs := ([(⟨#[114,97,119,47]⟩ : ByteArray),(⟨#[116,49,47]⟩ : ByteArray),(⟨#[116,50,47]⟩ : ByteArray)] : List ByteArray)) (inner := [.string (⟨#[114,97,119,47]⟩ : ByteArray),.string (⟨#[116,49,47]⟩ : ByteArray),.string (⟨#[116,50,47]⟩ : ByteArray)]) (ok := fun _ => True) (okp := fun _ => True) ?hr ?hp (fun _ hk => hk) trivial (Below.refl _ _) (Nat.le_refl _) (by simp) ?_; (case hd => rfl); (case hg => rfl); (case hr => first | (go_simp; done) | (go_simp; rfl)); (case hp => exact (Reps.one (show Kd.M Kd.string _ _ _ (⟨#[114,97,119,47]⟩ : ByteArray) [.string (⟨#[114,97,119,47]⟩ : ByteArray)] from rfl) (Reps.one (show Kd.M Kd.string _ _ _ (⟨#[116,49,47]⟩ : ByteArray) [.string (⟨#[116,49,47]⟩ : ByteArray)] from rfl) (Reps.one (show Kd.M Kd.string _ _ _ (⟨#[116,50,47]⟩ : ByteArray) [.string (⟨#[116,50,47]⟩ : ByteArray)] from rfl) (Reps.none _ _))))); intro v238 w1 ho2 hb hg_ hnew_; clear hg_ hnew_; (first | rw [← Ny237.out] at ho2 | (simp only [Int.reduceToNat] at ho2; rw [← Ny237.out] at ho2)); have n0_ := Aside0.mk (Kd.R_lower ho2 (below_size bA)); have n1_ := Aside0.mk (below_step bA hb); clear HB; have HO239 := n0_; have HB := n1_; clear n0_ n1_; clear hb ho2))
 go_ret
 exact ⟨_,by first | rfl | (simp [errW_none,errW_some] <;> rfl) | (simp [*,errW_none,errW_some] <;> rfl),rA HO239.out,bA⟩

/-! ### strings_CutPrefix: function 55 (by hand) -/
def strings_CutPrefix.f (a0 : ByteArray) (a1 : ByteArray) : Option (ByteArray × Bool) := some (⟨(Lib.trimPrefix a0.data.toList a1.data.toList).toArray⟩,Lib.hasPrefix a0.data.toList a1.data.toList)
theorem strings_CutPrefix.calls (a0 : ByteArray) (a1 : ByteArray) (r1 : ByteArray) (r2 : Bool) (w : World) (h : strings_CutPrefix.f a0 a1 = some (r1,r2)) :
  Calls Tryd.prog 55 #[.string a0,.string a1] w fun e w' => e = .returned (.tuple #[.string r1,.bool r2]) ∧ Below w.heap.size w w' := by
 unfold strings_CutPrefix.f at h
 obtain ⟨rfl,rfl⟩ := Prod.mk.inj (Option.some.inj h)
 exact (Tryd.strings_CutPrefix a0 a1 w).mono fun e w' ⟨he,hw⟩ => ⟨he,hw ▸ Below.refl _ _⟩

/-! ### strconv_Itoa: function 73 (by hand) -/
def strconv_Itoa.f (a0 : Int) : Option ByteArray := if -9223372036854775808 ≤ a0 ∧ a0 ≤ 9223372036854775807 then some ⟨(Lib.itoa a0).toArray⟩ else none
theorem strconv_Itoa.calls (a0 : Int) (r : ByteArray) (w : World) (hV : Vars w) (h : strconv_Itoa.f a0 = some r) :
  Calls Tryd.prog 73 #[.int .i64 a0] w fun e w' => e = .returned (.string r) ∧ Below w.heap.size w w' := by
 unfold strconv_Itoa.f at h
 split at h
 ·rename_i hb
  obtain rfl := Option.some.inj h
  exact (Tryd.strconv_Itoa a0 hb.1 hb.2 w hV.tab).mono fun e w' ⟨he,k,os,hw⟩ => ⟨he,hw ▸ below_grow_ w k os⟩
 ·cases h

/-! ### impl_six: function 68 -/
def impl_six.f (a0 : Int) : Option (ByteArray) := (strconv_Itoa.f (wrap64 (1000000 + a0))).bind fun t240 => (if 1 ≤ (t240.size : Int) then (some (t240.extract 1 t240.size)) else (none))
set_option maxHeartbeats 8000000 in
set_option maxRecDepth 100000 in
theorem impl_six.calls (a0 : Int) (r : ByteArray) (w : World) (hV : Vars w) (h : impl_six.f a0 = some r) :
  Calls Tryd.prog 68 #[.int .i64 a0] w fun e w' => e = .returned (.string r) ∧ Below w.heap.size w w' := by
 have HV := Aside0.mk hV
 clear hV
 have HB := Aside0.mk (Below.refl w.heap.size w)
 have H : ((strconv_Itoa.f (wrap64 (1000000 + a0))).bind fun t240 => (if 1 ≤ (t240.size : Int) then (some (t240.extract 1 t240.size)) else (none))) = some r := h
 clear h
 replace H := Option.bind_eq_some_iff.mp H
 obtain ⟨t240,A20,H⟩ := H
 try dsimp only at H
 have A2 := Aside0.mk A20
 clear A20
 by_cases c3 : 1 ≤ (t240.size : Int)
 ·rw [if_pos c3] at H
  have c3b0 := eq_true c3
  have c3b1 : decide (1 ≤ (t240.size : Int)) = true := decide_eq_true c3
  clear c3
  obtain rfl := Option.some.inj H
  go_enter Tryd.func68,Tryd.ntmps68
  go_wp2_with (first | ((with_reducible refine gate_callee (f:=73) rfl ?_); refine goesL_ (some 5) rfl rfl Tryd.func73 (by kernel_rfl) rfl #[.int .i64 (wrap64 (1000000 + a0))] rfl mA ?_; (with_reducible refine (strconv_Itoa.calls (wrap64 (1000000 + a0)) t240 _ ?side1 A2.out).mono ?_); (case side1 => exact HV.out.below bA); rintro e w4 ⟨rfl,hb⟩; refine ⟨_,rfl,?_⟩; have n0_ := Aside0.mk (below_step bA hb); clear HB; have HB := n0_; clear n0_; (try clear hb); (try clear hb2); (try clear hk); (try clear hi)))
  go_ret
  exact ⟨by first | rfl | (simp only [i64_w,i32_w] <;> rfl) | (simp [errW_none,errW_some] <;> rfl) | (simp [*,errW_none,errW_some] <;> rfl),bA⟩
 ·rw [if_neg c3] at H
  exact absurd H (by simp)

/-! ### impl_readSix: function 56 (by hand) -/
def impl_readSix.f (a0 : ByteArray) : Option (Int × Bool) := if a0.size ≤ 281474976710656 then (match Lib.atoiAll a0.data.toList with
 | .ok v => if 0 ≤ v ∧ v ≤ 999999 then (impl_six.f v).bind fun x => some (v,x.toList == a0.toList) else some (v,false)
 | .range => some (Lib.atoiSat a0.data.toList,false)
 | _ => some (0,false)) else none
set_option maxHeartbeats 8000000 in
set_option maxRecDepth 100000 in
theorem impl_readSix.calls (a0 : ByteArray) (r1 : Int) (r2 : Bool) (w : World) (hV : Vars w) (h : impl_readSix.f a0 = some (r1,r2)) :
  Calls Tryd.prog 56 #[.string a0] w fun e w' => e = .returned (.tuple #[.int .i64 r1,.bool r2]) ∧ Below w.heap.size w w' := by
 unfold impl_readSix.f at h
 split at h
 ·rename_i hsz
  rcases hA : Lib.atoiAll a0.data.toList with v | _ | _
  rotate_left
  ·rw [hA] at h
   obtain ⟨rfl,rfl⟩ := Prod.mk.inj (Option.some.inj h)
   obtain ⟨ev,hv,hev⟩ := hV.syn
   have hc := Aside0.mk (Tryd.strconv_Atoi_syntax a0 hsz (by rw [hA]; exact True.intro) ev w hv hev)
   clear hV hv hev hA hsz h
   go_enter Tryd.func56,Tryd.ntmps56
   go_wp2_with (go_at_call 67; refine hc.out.mono ?_; rintro e w1 ⟨N,rfl,hN,hcell,hb⟩; clear hN hcell; have HB := Aside0.mk hb; clear hb)
   go_ret2
   exact ⟨rfl,HB.out⟩
  ·rw [hA] at h
   obtain ⟨rfl,rfl⟩ := Prod.mk.inj (Option.some.inj h)
   obtain ⟨ev,hv,hev⟩ := hV.rng
   have hc := Aside0.mk (Tryd.strconv_Atoi_range a0 hsz hA ev w hv hev)
   clear hV hv hev hA hsz h
   generalize Lib.atoiSat a0.data.toList = z at hc
   go_enter Tryd.func56,Tryd.ntmps56
   go_wp2_with (go_at_call 67; refine hc.out.mono ?_; rintro e w1 ⟨N,rfl,hN,hcell,hb⟩; clear hN hcell; have HB := Aside0.mk hb; clear hb)
   go_ret2
   exact ⟨rfl,HB.out⟩
  ·rw [hA] at h
   have hc := Aside0.mk ((Tryd.strconv_Atoi_ok a0 (by omega) v hA w).mono fun e w' ⟨he,hw⟩ => (⟨he,by rcases hw with rfl | ⟨t,rfl⟩; exact Below.refl _ _; exact Lib.bytesWorld_below w _ t⟩ : e = _ ∧ Below w.heap.size w w'))
   have HV := Aside0.mk hV
   clear hV hA hsz
   by_cases hs : 0 ≤ v ∧ v ≤ 999999
   ·simp only [if_pos hs] at h
    obtain ⟨x,hx,h⟩ := Option.bind_eq_some_iff.mp h
    obtain ⟨rfl,rfl⟩ := Prod.mk.inj (Option.some.inj h)
    have HX := Aside0.mk hx
    have hW : Aside0 (∀ W,Calls Tryd.prog 25 #[.int .i64 v] W fun e w' => e = .returned (.bool true) ∧ Drawn0 W w') := ⟨fun W => impl_isSix.calls v _ W (by unfold impl_isSix.f impl_within.f; simp [hs.1,hs.2])⟩
    have hs := Aside0.mk hs
    clear hx h
    go_enter Tryd.func56,Tryd.ntmps56
    go_wp2_with (first
     | (go_at_call 67; refine hc.out.mono ?_; rintro e w1 ⟨rfl,hb⟩; have HB := Aside0.mk hb; clear hb)
     | (go_at_call 25; refine (hW.out _).mono ?_; rintro e w3 ⟨rfl,⟨nd,rfl⟩⟩; have HB1 := Aside0.mk (Drawn0.below_trans_ HB.out nd))
     | (go_at_call 68; refine (impl_six.calls v x _ (HV.out.below HB1.out) HX.out).mono ?_; rintro e w2 ⟨rfl,hb⟩; have HB2 := Aside0.mk (HB1.out.trans (hb.mono HB1.out.size) : Below w.heap.size w w2); clear hb))
    go_ret2
    exact ⟨rfl,HB2.out⟩
   ·simp only [if_neg hs] at h
    obtain ⟨rfl,rfl⟩ := Prod.mk.inj (Option.some.inj h)
    have hW : Aside0 (∀ W,Calls Tryd.prog 25 #[.int .i64 v] W fun e w' => e = .returned (.bool false) ∧ Drawn0 W w') := ⟨fun W => impl_isSix.calls v _ W (by unfold impl_isSix.f impl_within.f; by_cases h0 : 0 ≤ v <;> simp [h0]; omega)⟩
    have hs := Aside0.mk hs
    clear h
    go_enter Tryd.func56,Tryd.ntmps56
    go_wp2_with (first
     | (go_at_call 67; refine hc.out.mono ?_; rintro e w1 ⟨rfl,hb⟩; have HB := Aside0.mk hb; clear hb)
     | (go_at_call 25; refine (hW.out _).mono ?_; rintro e w3 ⟨rfl,⟨nd,rfl⟩⟩; have HB1 := Aside0.mk (Drawn0.below_trans_ HB.out nd)))
    go_ret2
    exact ⟨rfl,HB1.out⟩
 ·cases h

/-! ### impl_readDataKey: function 29 -/
mutual
def impl_readDataKey.l0 : Nat → ByteArray → List ByteArray → Int → Int → Option (Int × Int × Int × Bool)
 | 0,_,_,_,_ => none
 | k + 1,x0,x14,x15,x16 => if x16 < x15 then (if 0 ≤ x16 then (if x16 < (x14.length : Int) then ((strings_CutPrefix.f x0 (rdOf ByteArray.empty x14 x16)).bind fun bt245 => (if bt245.2 = true then (if (bt245.1.size : Int) = 13 then (if 6 < (bt245.1.size : Int) then (impl_readDataKey.j1 k x0 x16 bt245.1 x14 x15 x16 ((bt bt245.1 6) == 45)) else (none)) else (impl_readDataKey.j1 k x0 x16 bt245.1 x14 x15 x16 false)) else (impl_readDataKey.j1 k x0 x16 bt245.1 x14 x15 x16 false))) else (none)) else (none)) else (some (0,0,0,false))
def impl_readDataKey.j1 : Nat → ByteArray → Int → ByteArray → List ByteArray → Int → Int → Bool → Option (Int × Int × Int × Bool)
 | 0,_,_,_,_,_,_,_ => none
 | k + 1,x0,x6,x8,x14,x15,x16,x37 => if x37 = true then (if 0 ≤ 6 then (if 6 ≤ (x8.size : Int) then ((impl_readSix.f (x8.extract 0 6)).bind fun bt247 => (if 7 ≤ (x8.size : Int) then ((impl_readSix.f (x8.extract 7 x8.size)).bind fun bt249 => (if bt247.2 = true then (if bt249.2 = true then (some (x6,bt247.1,bt249.1,true)) else (impl_readDataKey.l0 k x0 x14 x15 (wrap64 (x16 + 1)))) else (impl_readDataKey.l0 k x0 x14 x15 (wrap64 (x16 + 1))))) else (none))) else (none)) else (none)) else (impl_readDataKey.l0 k x0 x14 x15 (wrap64 (x16 + 1)))
end
def impl_readDataKey.f (k : Nat) (a0 : ByteArray) : Option (Int × Int × Int × Bool) := (impl_dataPrefixes.f).bind fun t241 => (impl_readDataKey.l0 k a0 t241 (t241.length : Int) 0)
theorem impl_readDataKey.mono_l : ∀ k,(∀ y0 y1 y2 y3,LeO (impl_readDataKey.l0 k y0 y1 y2 y3) (impl_readDataKey.l0 (k + 1) y0 y1 y2 y3)) ∧ (∀ y0 y1 y2 y3 y4 y5 y6,LeO (impl_readDataKey.j1 k y0 y1 y2 y3 y4 y5 y6) (impl_readDataKey.j1 (k + 1) y0 y1 y2 y3 y4 y5 y6))
 | 0 => ⟨fun _ _ _ _ r h => by simp [impl_readDataKey.l0] at h,fun _ _ _ _ _ _ _ r h => by simp [impl_readDataKey.j1] at h⟩
 | k + 1 => by
  obtain ⟨ih0,ih1⟩ := impl_readDataKey.mono_l k
  refine ⟨?_,?_⟩
  ·intro y0 y1 y2 y3
   unfold impl_readDataKey.l0
   repeat' first
   | (with_reducible exact ih0 _ _ _ _)
   | (with_reducible exact ih1 _ _ _ _ _ _ _)
   | (with_reducible exact LeO.refl _)
   | (with_reducible exact LeO.none _)
   | (with_reducible refine LeO.ite ?_ ?_)
   | (with_reducible refine LeO.bind ?_ (fun _ => ?_))
   | exact ih0 _ _ _ _
   | exact ih1 _ _ _ _ _ _ _
   | exact LeO.none _
   | refine LeO.ite ?_ ?_
   | refine LeO.bind ?_ (fun _ => ?_)
  ·intro y0 y1 y2 y3 y4 y5 y6
   unfold impl_readDataKey.j1
   repeat' first
   | (with_reducible exact ih0 _ _ _ _)
   | (with_reducible exact ih1 _ _ _ _ _ _ _)
   | (with_reducible exact LeO.refl _)
   | (with_reducible exact LeO.none _)
   | (with_reducible refine LeO.ite ?_ ?_)
   | (with_reducible refine LeO.bind ?_ (fun _ => ?_))
   | exact ih0 _ _ _ _
   | exact ih1 _ _ _ _ _ _ _
   | exact LeO.none _
   | refine LeO.ite ?_ ?_
   | refine LeO.bind ?_ (fun _ => ?_)
theorem impl_readDataKey.mono : ∀ a0 k,LeO (impl_readDataKey.f k a0) (impl_readDataKey.f (k + 1) a0) := by
 intro a0 k
 obtain ⟨ih0,ih1⟩ := impl_readDataKey.mono_l k
 unfold impl_readDataKey.f
 repeat' first
   | (with_reducible exact ih0 _ _ _ _)
   | (with_reducible exact ih1 _ _ _ _ _ _ _)
   | (with_reducible exact LeO.refl _)
   | (with_reducible exact LeO.none _)
   | (with_reducible refine LeO.ite ?_ ?_)
   | (with_reducible refine LeO.bind ?_ (fun _ => ?_))
   | exact ih0 _ _ _ _
   | exact ih1 _ _ _ _ _ _ _
   | exact LeO.none _
   | refine LeO.ite ?_ ?_
   | refine LeO.bind ?_ (fun _ => ?_)
set_option maxHeartbeats 8000000 in
set_option maxRecDepth 100000 in
theorem impl_readDataKey.calls (k : Nat) (a0 : ByteArray) (r1 : Int) (r2 : Int) (r3 : Int) (r4 : Bool) (w : World) (hV : Vars w) (h : impl_readDataKey.f k a0 = some (r1,r2,r3,r4)) :
  Calls Tryd.prog 29 #[.string a0] w fun e w' => e = .returned (.tuple #[.int .i64 r1,.int .i64 r2,.int .i64 r3,.bool r4]) ∧ Below w.heap.size w w' := by
 have HV := Aside0.mk hV
 clear hV
 have HB := Aside0.mk (Below.refl w.heap.size w)
 have H : ((impl_dataPrefixes.f).bind fun t241 => (impl_readDataKey.l0 k a0 t241 (t241.length : Int) 0)) = some (r1,r2,r3,r4) := h
 clear h
 replace H := Option.bind_eq_some_iff.mp H
 obtain ⟨t241,A20,H⟩ := H
 try dsimp only at H
 have A2 := Aside0.mk A20
 clear A20
 have H' := Aside0.mk H
 clear H
 go_enter Tryd.func29,Tryd.ntmps29
 go_wp2_with (first | ((with_reducible refine gate_callee (f:=54) rfl ?_); refine goesL_ (some 14) rfl rfl Tryd.func54 (by kernel_rfl) rfl #[] rfl mA ?_; (with_reducible refine (impl_dataPrefixes.calls  t241 _ A2.out).mono ?_); rintro e w3 ⟨v242,rfl,ho0,hb⟩; refine ⟨_,rfl,?_⟩; have n0_ := Aside0.mk (Kd.R_lower ho0 (below_size bA)); have n1_ := Aside0.mk (below_step bA hb); clear HB; have HO243 := n0_; have HB := n1_; clear n0_ n1_; (try clear hb); (try clear hb2); (try clear hk); (try clear hi); (try clear ho0); obtain ⟨Ao4,co4,eo4⟩ := Kd.R_slice HO243.out; subst eo4))
 go_loopg [16] k (fun kq v16 w' => ∃ (x16_1 : Int),v16 = .int .i64 x16_1 ∧ Aside0 (impl_readDataKey.l0 kq a0 t241 (t241.length : Int) x16_1 = some (r1,r2,r3,r4)) ∧ Aside0 (kq ≤ k) ∧ Aside0 (Kd.R Kd.string 9 w' w.heap.size (fun _ => True) (.slice Ao4 t241.length co4) t241) ∧ Aside0 (Below w.heap.size w w'))
 case atStart => exact ⟨(0),(by first | rfl | (simp; done) | (simp [*]; done)),H',⟨Nat.le_refl _⟩,⟨rA HO243.out⟩,⟨bA⟩⟩
 case round =>
  clear H'
  try clear c2
  try clear p2
  obtain ⟨x16_1,rfl,HA,HK1,HO_14,HB⟩ := hrel
  cases gk with
  | zero => exact absurd HA.out (by simp [impl_readDataKey.l0])
  | succ k1 =>
   have H := HA.out
   clear HA
   simp only [impl_readDataKey.l0] at H
   by_cases c5 : x16_1 < (t241.length : Int)
   ·rw [if_pos c5] at H
    have c5b0 : decide (x16_1 < (t241.length : Int)) = true := decide_eq_true c5
    clear c5
    by_cases c6 : 0 ≤ x16_1
    ·rw [if_pos c6] at H
     have c6b0 : decide (0 ≤ x16_1) = true := decide_eq_true c6
     clear c6
     by_cases c7 : x16_1 < (t241.length : Int)
     ·rw [if_pos c7] at H
      have c7b0 : decide (x16_1 < (t241.length : Int)) = true := decide_eq_true c7
      clear c7
      replace H := Option.bind_eq_some_iff.mp H
      obtain ⟨⟨t245,t246⟩,A80,H⟩ := H
      try dsimp only at H
      have A8 := Aside0.mk A80
      clear A80
      have HC9 := Aside0.mk H
      clear H
      have p244 : 0 ≤ (x16_1 : Int) := of_decide_eq_true (by first | (with_reducible assumption) | assumption)
      have q244 : x16_1 < (t241.length : Int) := of_decide_eq_true (by first | (with_reducible assumption) | assumption)
      obtain ⟨ad244,e244,hx244_0⟩ := Kd.at_string (Kd.R_reads' HO_14.out).2.2 x16_1 p244 q244
      cases e244
      replace p244 := eq_true p244
      replace q244 := eq_true q244
      go_upto_region 5 with (first | ((with_reducible refine gate_callee (f:=55) rfl ?_); refine goesL_ (some 24) rfl rfl Tryd.func55 (by kernel_rfl) rfl #[.string a0,.string (rdOf ByteArray.empty t241 x16_1)] rfl mA ?_; (with_reducible refine (strings_CutPrefix.calls a0 (rdOf ByteArray.empty t241 x16_1) t245 t246 _ A8.out).mono ?_); rintro e w10 ⟨rfl,hb⟩; refine ⟨_,rfl,?_⟩; have n0_ := Aside0.mk (Kd.R_below (rA HO_14.out) hb); have n1_ := Aside0.mk (below_step bA hb); clear HO_14; clear HB; have HO_14 := n0_; have HB := n1_; clear n0_ n1_; (try clear hb); (try clear hb2); (try clear hk); (try clear hi)))
      (try simp only [Act.put,setIfInBounds_toArray,set_cons_zero,set_cons_succ])
      go_cut [37] (fun v37 wc => ∃ (kq : Nat) (x37_8 : Bool),v37 = .bool x37_8 ∧ Aside0 (impl_readDataKey.j1 kq a0 x16_1 t245 t241 (t241.length : Int) x16_1 x37_8 = some (r1,r2,r3,r4)) ∧ Aside0 (kq ≤ k1) ∧ Aside0 (Kd.R Kd.string 9 wc w.heap.size (fun _ => True) (.slice (some ad244) t241.length co4) t241) ∧ Aside0 (Below w.heap.size w wc))
      case first =>
       have H := HC9.out
       clear HC9
       by_cases c11 : t246 = true
       ·subst c11
        rw [if_pos rfl] at H
        by_cases c12 : (t245.size : Int) = 13
        ·rw [if_pos c12] at H
         have c12b0 : ((t245.size : Int) == 13) = true := beq_iff_eq.mpr c12
         have c12b1 : ((t245.size : Int) != 13) = false := bne_eq_false_iff_eq.mpr c12
         clear c12
         (first | rw [c12b0] | (simp only [i64_w,i32_w]; rw [c12b0]) | skip)
         by_cases c13 : 6 < (t245.size : Int)
         ·rw [if_pos c13] at H
          have c13b0 : decide (6 < (t245.size : Int)) = true := decide_eq_true c13
          have c13b1 : decide (6 < t245.size) = true := decide_eq_true (by omega)
          clear c13
          have H' := Aside0.mk H
          clear H
          have p14 : 0 ≤ (6 : Int) := (by omega)
          have q14 : 6 < t245.size := (by have : (6 : Int) < (t245.size : Int) := of_decide_eq_true (by first | (with_reducible assumption) | assumption); omega)
          have hx14 : ∀ h : 6 < t245.size,((t245[6]'h).toNat : Int) = bt t245 6 := bt_at t245 6
          clear p14
          have qi14 : (6 < (t245.size : Int)) = True := eq_true (of_decide_eq_true (by first | (with_reducible assumption) | assumption))
          replace q14 := eq_true q14
          go_wp2
          go_meet
          case rel => exact ⟨_,(((bt t245 6) == 45)),(by first | rfl | (simp; done) | (simp [*]; done)),H',⟨by have := HK1.out; first | omega | exact Nat.le_refl _⟩,⟨rA HO_14.out⟩,⟨bA⟩⟩
         ·rw [if_neg c13] at H
          exact absurd H (by simp)
        ·rw [if_neg c12] at H
         have c12b0 : ((t245.size : Int) == 13) = false := beq_eq_false_iff_ne.mpr c12
         have c12b1 : ((t245.size : Int) != 13) = true := bne_iff_ne.mpr c12
         (first | rw [c12b0] | (simp only [i64_w,i32_w]; rw [c12b0]) | skip)
         have H' := Aside0.mk H
         clear H
         go_wp2
         go_meet
         case rel => exact ⟨_,(false),(by first | rfl | (simp; done) | (simp [*]; done)),H',⟨by have := HK1.out; first | omega | exact Nat.le_refl _⟩,⟨rA HO_14.out⟩,⟨bA⟩⟩
       ·replace c11 := Bool.eq_false_iff.mpr c11
        subst c11
        rw [if_neg (show ¬ (false = true) by decide)] at H
        have H' := Aside0.mk H
        clear H
        go_wp2
        go_meet
        case rel => exact ⟨_,(false),(by first | rfl | (simp; done) | (simp [*]; done)),H',⟨by have := HK1.out; first | omega | exact Nat.le_refl _⟩,⟨rA HO_14.out⟩,⟨bA⟩⟩
      case rest =>
       clear HC9
       try clear c1
       try clear p1
       try clear q1
       try clear hx1
       try clear qi1
       try clear c2
       try clear p2
       try clear q2
       try clear hx2
       try clear c5
       try clear c5b0
       try clear c6
       try clear c6b0
       try clear c7
       try clear c7b0
       try clear c11
       try clear c12
       try clear c12b0
       try clear c12b1
       try clear c13
       try clear c13b0
       try clear c13b1
       try clear p14
       try clear q14
       try clear hx14
       try clear qi14
       try clear hx244_0
       try clear p14
       try clear p2
       try clear p244
       try clear q14
       try clear q244
       obtain ⟨kq,x37_8,rfl,HA,HJ8,HO_14,HB⟩ := hcut
       cases kq with
       | zero => exact absurd HA.out (by simp [impl_readDataKey.j1])
       | succ kj8 =>
        have H := HA.out
        clear HA
        simp only [impl_readDataKey.j1] at H
        by_cases c15 : x37_8 = true
        ·subst c15
         rw [if_pos rfl] at H
         by_cases c16 : 0 ≤ 6
         ·rw [if_pos c16] at H
          have c16b0 := eq_true c16
          have c16b1 : decide (0 ≤ 6) = true := decide_eq_true c16
          clear c16
          by_cases c17 : 6 ≤ (t245.size : Int)
          ·rw [if_pos c17] at H
           have c17b0 := eq_true c17
           have c17b1 : decide (6 ≤ (t245.size : Int)) = true := decide_eq_true c17
           clear c17
           replace H := Option.bind_eq_some_iff.mp H
           obtain ⟨⟨t247,t248⟩,A180,H⟩ := H
           try dsimp only at H
           have A18 := Aside0.mk A180
           clear A180
           by_cases c19 : 7 ≤ (t245.size : Int)
           ·rw [if_pos c19] at H
            have c19b0 := eq_true c19
            have c19b1 : decide (7 ≤ (t245.size : Int)) = true := decide_eq_true c19
            clear c19
            replace H := Option.bind_eq_some_iff.mp H
            obtain ⟨⟨t249,t250⟩,A200,H⟩ := H
            try dsimp only at H
            have A20 := Aside0.mk A200
            clear A200
            by_cases c21 : t248 = true
            ·subst c21
             rw [if_pos rfl] at H
             by_cases c22 : t250 = true
             ·subst c22
              rw [if_pos rfl] at H
              simp only [Option.some.injEq,Prod.mk.injEq] at H
              obtain ⟨rfl,rfl,rfl,rfl⟩ := H
              go_wp2_with (first | ((with_reducible refine gate_callee (f:=56) rfl ?_); refine goesL_ (some 41) rfl rfl Tryd.func56 (by kernel_rfl) rfl #[.string (t245.extract 0 6)] rfl mA ?_; (with_reducible refine (impl_readSix.calls (t245.extract 0 6) t247 true _ ?side1 A18.out).mono ?_); (case side1 => exact HV.out.below bA); rintro e w23 ⟨rfl,hb⟩; refine ⟨_,rfl,?_⟩; have n0_ := Aside0.mk (Kd.R_below (rA HO_14.out) hb); have n1_ := Aside0.mk (below_step bA hb); clear HO_14; clear HB; have HO_14 := n0_; have HB := n1_; clear n0_ n1_; (try clear hb); (try clear hb2); (try clear hk); (try clear hi)) | ((with_reducible refine gate_callee (f:=56) rfl ?_); refine goesL_ (some 47) rfl rfl Tryd.func56 (by kernel_rfl) rfl #[.string (t245.extract 7 t245.size)] rfl mA ?_; (with_reducible refine (impl_readSix.calls (t245.extract 7 t245.size) t249 true _ ?side1 A20.out).mono ?_); (case side1 => exact HV.out.below bA); rintro e w24 ⟨rfl,hb⟩; refine ⟨_,rfl,?_⟩; have n0_ := Aside0.mk (Kd.R_below (rA HO_14.out) hb); have n1_ := Aside0.mk (below_step bA hb); clear HO_14; clear HB; have HO_14 := n0_; have HB := n1_; clear n0_ n1_; (try clear hb); (try clear hb2); (try clear hk); (try clear hi)))
              refine bodyPost_ret (results_list (rs := [.tmp 2,.tmp 3,.tmp 4,.tmp 5]) rfl (by simp) (.tmp (.tmp (.tmp (.tmp .nil))))) rfl ?_
              exact ⟨by first | rfl | (simp only [i64_w,i32_w] <;> rfl) | (simp [errW_none,errW_some] <;> rfl) | (simp [*,errW_none,errW_some] <;> rfl),bA⟩
             ·replace c22 := Bool.eq_false_iff.mpr c22
              subst c22
              rw [if_neg (show ¬ (false = true) by decide)] at H
              have H' := Aside0.mk H
              clear H
              go_wp2_with (first | ((with_reducible refine gate_callee (f:=56) rfl ?_); refine goesL_ (some 41) rfl rfl Tryd.func56 (by kernel_rfl) rfl #[.string (t245.extract 0 6)] rfl mA ?_; (with_reducible refine (impl_readSix.calls (t245.extract 0 6) t247 true _ ?side1 A18.out).mono ?_); (case side1 => exact HV.out.below bA); rintro e w25 ⟨rfl,hb⟩; refine ⟨_,rfl,?_⟩; have n0_ := Aside0.mk (Kd.R_below (rA HO_14.out) hb); have n1_ := Aside0.mk (below_step bA hb); clear HO_14; clear HB; have HO_14 := n0_; have HB := n1_; clear n0_ n1_; (try clear hb); (try clear hb2); (try clear hk); (try clear hi)) | ((with_reducible refine gate_callee (f:=56) rfl ?_); refine goesL_ (some 47) rfl rfl Tryd.func56 (by kernel_rfl) rfl #[.string (t245.extract 7 t245.size)] rfl mA ?_; (with_reducible refine (impl_readSix.calls (t245.extract 7 t245.size) t249 false _ ?side1 A20.out).mono ?_); (case side1 => exact HV.out.below bA); rintro e w26 ⟨rfl,hb⟩; refine ⟨_,rfl,?_⟩; have n0_ := Aside0.mk (Kd.R_below (rA HO_14.out) hb); have n1_ := Aside0.mk (below_step bA hb); clear HO_14; clear HB; have HO_14 := n0_; have HB := n1_; clear n0_ n1_; (try clear hb); (try clear hb2); (try clear hk); (try clear hi)))
              go_roundg kj8
              case measure => have := HK1.out; have := HJ8.out; omega
              case rel => exact ⟨(wrap64 (x16_1 + 1)),(by first | rfl | (simp; done) | (simp [*]; done)),H',⟨by have := HK1.out; have := HJ8.out; omega⟩,⟨rA HO_14.out⟩,⟨bA⟩⟩
            ·replace c21 := Bool.eq_false_iff.mpr c21
             subst c21
             rw [if_neg (show ¬ (false = true) by decide)] at H
             have H' := Aside0.mk H
             clear H
             go_wp2_with (first | ((with_reducible refine gate_callee (f:=56) rfl ?_); refine goesL_ (some 41) rfl rfl Tryd.func56 (by kernel_rfl) rfl #[.string (t245.extract 0 6)] rfl mA ?_; (with_reducible refine (impl_readSix.calls (t245.extract 0 6) t247 false _ ?side1 A18.out).mono ?_); (case side1 => exact HV.out.below bA); rintro e w27 ⟨rfl,hb⟩; refine ⟨_,rfl,?_⟩; have n0_ := Aside0.mk (Kd.R_below (rA HO_14.out) hb); have n1_ := Aside0.mk (below_step bA hb); clear HO_14; clear HB; have HO_14 := n0_; have HB := n1_; clear n0_ n1_; (try clear hb); (try clear hb2); (try clear hk); (try clear hi)) | ((with_reducible refine gate_callee (f:=56) rfl ?_); refine goesL_ (some 47) rfl rfl Tryd.func56 (by kernel_rfl) rfl #[.string (t245.extract 7 t245.size)] rfl mA ?_; (with_reducible refine (impl_readSix.calls (t245.extract 7 t245.size) t249 t250 _ ?side1 A20.out).mono ?_); (case side1 => exact HV.out.below bA); rintro e w28 ⟨rfl,hb⟩; refine ⟨_,rfl,?_⟩; have n0_ := Aside0.mk (Kd.R_below (rA HO_14.out) hb); have n1_ := Aside0.mk (below_step bA hb); clear HO_14; clear HB; have HO_14 := n0_; have HB := n1_; clear n0_ n1_; (try clear hb); (try clear hb2); (try clear hk); (try clear hi)))
             go_roundg kj8
             case measure => have := HK1.out; have := HJ8.out; omega
             case rel => exact ⟨(wrap64 (x16_1 + 1)),(by first | rfl | (simp; done) | (simp [*]; done)),H',⟨by have := HK1.out; have := HJ8.out; omega⟩,⟨rA HO_14.out⟩,⟨bA⟩⟩
           ·rw [if_neg c19] at H
            exact absurd H (by simp)
          ·rw [if_neg c17] at H
           exact absurd H (by simp)
         ·rw [if_neg c16] at H
          exact absurd H (by simp)
        ·replace c15 := Bool.eq_false_iff.mpr c15
         subst c15
         rw [if_neg (show ¬ (false = true) by decide)] at H
         have H' := Aside0.mk H
         clear H
         go_wp2
         go_roundg kj8
         case measure => have := HK1.out; have := HJ8.out; omega
         case rel => exact ⟨(wrap64 (x16_1 + 1)),(by first | rfl | (simp; done) | (simp [*]; done)),H',⟨by have := HK1.out; have := HJ8.out; omega⟩,⟨rA HO_14.out⟩,⟨bA⟩⟩
     ·rw [if_neg c7] at H
      exact absurd H (by simp)
    ·rw [if_neg c6] at H
     exact absurd H (by simp)
   ·rw [if_neg c5] at H
    have c5b0 : decide (x16_1 < (t241.length : Int)) = false := decide_eq_false c5
    clear c5
    simp only [Option.some.injEq,Prod.mk.injEq] at H
    obtain ⟨rfl,rfl,rfl,rfl⟩ := H
    go_wp2
    refine bodyPost_ret (results_list (rs := [.tmp 2,.tmp 3,.tmp 4,.tmp 5]) rfl (by simp) (.tmp (.tmp (.tmp (.tmp .nil))))) rfl ?_
    exact ⟨by first | rfl | (simp only [i64_w,i32_w] <;> rfl) | (simp [errW_none,errW_some] <;> rfl) | (simp [*,errW_none,errW_some] <;> rfl),bA⟩

end Go.Proofs.YtfondhlknkhmmaaDoor.XFnExactStateOK
