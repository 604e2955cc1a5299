-- Printed by this session's own program wip/tools/xprint.py, which widens the kit's print. Not trusted: Lean checks it.
import Derived.Test.YtleifhnoaaphmaaGreatDoorXFnExactWindowOfx0
import Derived.Test.YtleifhnoaaphmaaGreatDoorXFnExactWindowOfx1
import Derived.Test.YtleifhnoaaphmaaGreatDoorXFnExactWindowOfx11
import Derived.Test.YtleifhnoaaphmaaGreatDoorXFnExactWindowOfx12
namespace Go.Proofs.YtleifhnoaaphmaaGreatDoor.XFnExactWindowOf
open List (setIfInBounds_toArray set_cons_zero set_cons_succ)
open Go.RowKit Go.Proofs.YtleifhnoaaphmaaGreatDoorW.PrintWords Go.Proofs.YtleifhnoaaphmaaGreatDoorW.PrintLast Go.Proofs.YtleifhnoaaphmaaGreatDoorW.PrintMore
attribute [local go_sem] max2_int min2_int max_two min_two max_three min_three max_four min_four   -- for this text's walks alone
set_option linter.unusedVariables false
set_option linter.unusedSimpArgs false

attribute [local go_sem high] eqA26
/-! ### impl_samplesIn: function 29 -/
def impl_samplesIn.l0 : Nat → Int → Int → List (S49) → List (S49) → Int → Int → Option ((List (S49)))
 | 0,_,_,_,_,_,_ => none
 | k + 1,x1,x2,x7,x11,x12,x13 => if x13 < x12 then (if 0 ≤ x13 then (if x13 < (x11.length : Int) then ((impl_within.f ((rd_T49 x11 x13).f0) x1 (wrap64 (x2 - 1))).bind fun t425 => (if t425 = true then (if x7.length < 8796093022208 then (impl_samplesIn.l0 k x1 x2 (x7 ++ [(⟨(rd_T49 x11 x13).f0,(rd_T49 x11 x13).f1⟩ : S49)]) x11 x12 (wrap64 (x13 + 1))) else (none)) else (impl_samplesIn.l0 k x1 x2 x7 x11 x12 (wrap64 (x13 + 1))))) else (none)) else (none)) else (some x7)
def impl_samplesIn.f (k : Nat) (l0 : List (S49)) (a1 : Int) (a2 : Int) : Option ((List (S49))) := impl_samplesIn.l0 k a1 a2 (([] : List (S49))) l0 (l0.length : Int) 0
theorem impl_samplesIn.mono_l : ∀ k,(∀ y0 y1 y2 y3 y4 y5,LeO (impl_samplesIn.l0 k y0 y1 y2 y3 y4 y5) (impl_samplesIn.l0 (k + 1) y0 y1 y2 y3 y4 y5))
 | 0 => fun _ _ _ _ _ _ r h => by simp [impl_samplesIn.l0] at h
 | k + 1 => by
  have ih0 := impl_samplesIn.mono_l k
  ·intro y0 y1 y2 y3 y4 y5
   unfold impl_samplesIn.l0
   repeat' first
   | (with_reducible exact ih0 _ _ _ _ _ _)
   | (with_reducible exact LeO.refl _)
   | (with_reducible exact LeO.none _)
   | (with_reducible refine LeO.ite ?_ ?_)
   | (with_reducible refine LeO.bind ?_ (fun _ => ?_))
   | exact ih0 _ _ _ _ _ _
   | exact LeO.none _
   | refine LeO.ite ?_ ?_
   | refine LeO.bind ?_ (fun _ => ?_)
theorem impl_samplesIn.mono : ∀ a0 a1 a2 k,LeO (impl_samplesIn.f k a0 a1 a2) (impl_samplesIn.f (k + 1) a0 a1 a2) := by
 intro a0 a1 a2 k
 have ih0 := impl_samplesIn.mono_l k
 unfold impl_samplesIn.f
 repeat' first
   | (with_reducible exact ih0 _ _ _ _ _ _)
   | (with_reducible exact LeO.refl _)
   | (with_reducible exact LeO.none _)
   | (with_reducible refine LeO.ite ?_ ?_)
   | (with_reducible refine LeO.bind ?_ (fun _ => ?_))
   | exact ih0 _ _ _ _ _ _
   | exact LeO.none _
   | refine LeO.ite ?_ ?_
   | refine LeO.bind ?_ (fun _ => ?_)
set_option maxHeartbeats 8000000 in
set_option maxRecDepth 100000 in
theorem impl_samplesIn.calls (k : Nat) (A0 : Option Addr) (c0 : Nat) (l0 : List (S49)) (a1 : Int) (a2 : Int) (r : List (S49)) (w : World) (hr0 : Kd.C k49 w A0 l0.length l0) (hc0 : l0.length ≤ c0) (h : impl_samplesIn.f k l0 a1 a2 = some r) :
  Calls Tryz.prog 29 #[.slice A0 l0.length c0,.int .i64 a1,.int .i64 a2] w fun e w' => ∃ v0_ : Value,e = .returned (v0_) ∧ Kd.R k49 49 w' w.heap.size (fun _ => True) v0_ r ∧ Below w.heap.size w w' := by
 have hu49 := Tryz.underlying49
 have HR0 := Aside0.mk hr0
 have HC0 := Aside0.mk hc0
 clear hr0 hc0
 have HB := Aside0.mk (Below.refl w.heap.size w)
 have H : (impl_samplesIn.l0 k a1 a2 (([] : List (S49))) l0 (l0.length : Int) 0) = some r := h
 clear h
 obtain ⟨y420,hy420⟩ : ∃ y_ : List (S49),y_ = (([] : List (S49))) := ⟨_,rfl⟩
 replace H : (impl_samplesIn.l0 k a1 a2 y420 l0 (l0.length : Int) 0) = some r := by first | (rw [hy420]; with_reducible exact H) | (have H2_ := (Option.bind_some _ _).symm.trans H; rw [hy420]; with_reducible exact H2_) | (have H2_ := (Option.bind_some _ _).symm.trans H; with_reducible exact H2_) | with_reducible exact H | (rw [hy420]; exact H) | exact H
 have Ny420 := Aside0.mk hy420
 clear hy420
 have H' := Aside0.mk H
 clear H
 go_enter Tryz.func29,Tryz.ntmps29
 go_wp2_with (first | ((with_reducible refine gate_dst (N:=10) rfl ?_); refine Kd.R_lit k49 _ 49 ?hg (N:=10) ?hd (xs := ([] : List (S49))) (inner := []) (ok := fun _ => True) (okp := fun _ => True) ?hr ?hp (fun _ hk => hk) trivial (Below.refl _ _) (Nat.le_refl _) (by simp) ?_; (case hd => rfl); (case hg => rfl); (case hr => first | (go_simp; done) | (go_simp; rfl)); (case hp => exact (Reps.none _ _)); intro v421 w4 ho5 hb hg_ hnew_; clear hg_ hnew_; (first | rw [← Ny420.out] at ho5 | (simp only [Int.reduceToNat] at ho5; rw [← Ny420.out] at ho5)); have n0_ := Aside0.mk (Kd.R_lower ho5 (below_size bA)); have n1_ := Aside0.mk (below_step bA hb); clear HB; have HO422 := n0_; have HB := n1_; clear n0_ n1_; clear hb ho5))
 go_loopg [7,13] k (fun kq v7 v13 w' => ∃ (x7_1 : List (S49)) (x13_1 : Int),v13 = .int .i64 x13_1 ∧ Aside0 (impl_samplesIn.l0 kq a1 a2 x7_1 l0 (l0.length : Int) x13_1 = some r) ∧ Aside0 (kq ≤ k) ∧ Aside0 (Kd.R k49 49 w' w.heap.size (fun _ => True) v7 x7_1) ∧ Aside0 (Below w.heap.size w w'))
 case atStart => exact ⟨(y420),(0),(by first | rfl | (simp; done) | (simp [*]; done)),H',⟨Nat.le_refl _⟩,⟨rA HO422.out⟩,⟨bA⟩⟩
 case round =>
  clear H'
  try clear c2
  try clear p2
  obtain ⟨x7_1,x13_1,rfl,HA,HK1,HO_7,HB⟩ := hrel
  cases gk with
  | zero => exact absurd HA.out (by simp [impl_samplesIn.l0])
  | succ k1 =>
   have H := HA.out
   clear HA
   simp only [impl_samplesIn.l0] at H
   by_cases c6 : x13_1 < (l0.length : Int)
   ·rw [if_pos c6] at H
    have c6b0 : decide (x13_1 < (l0.length : Int)) = true := decide_eq_true c6
    clear c6
    by_cases c7 : 0 ≤ x13_1
    ·rw [if_pos c7] at H
     have c7b0 : decide (0 ≤ x13_1) = true := decide_eq_true c7
     clear c7
     by_cases c8 : x13_1 < (l0.length : Int)
     ·rw [if_pos c8] at H
      have c8b0 : decide (x13_1 < (l0.length : Int)) = true := decide_eq_true c8
      clear c8
      replace H := Option.bind_eq_some_iff.mp H
      obtain ⟨t425,A90,H⟩ := H
      try dsimp only at H
      have A9 := Aside0.mk A90
      clear A90
      by_cases c10 : t425 = true
      ·subst c10
       rw [if_pos rfl] at H
       by_cases c11 : x7_1.length < 8796093022208
       ·rw [if_pos c11] at H
        have LMc11 := Aside0.mk c11
        clear c11
        obtain ⟨y426,hy426⟩ : ∃ y_ : List (S49),y_ = (x7_1 ++ [(⟨(rd_T49 l0 x13_1).f0,(rd_T49 l0 x13_1).f1⟩ : S49)]) := ⟨_,rfl⟩
        replace H : (impl_samplesIn.l0 k1 a1 a2 y426 l0 (l0.length : Int) (wrap64 (x13_1 + 1))) = some r := by first | (rw [hy426]; with_reducible exact H) | (have H2_ := (Option.bind_some _ _).symm.trans H; rw [hy426]; with_reducible exact H2_) | (have H2_ := (Option.bind_some _ _).symm.trans H; with_reducible exact H2_) | with_reducible exact H | (rw [hy426]; exact H) | exact H
        have Ny426 := Aside0.mk hy426
        clear hy426
        have H' := Aside0.mk H
        clear H
        have p423 : 0 ≤ (x13_1 : Int) := od
        have q423 : x13_1 < (l0.length : Int) := od
        obtain ⟨ad423,e423,hx423_0,hx423_1⟩ := at_T49 HR0.out x13_1 p423 q423
        cases e423
        replace hx423_0 := cb HB.out hx423_0
        replace hx423_1 := cb HB.out hx423_1
        replace p423 := eq_true p423
        replace q423 := eq_true q423
        go_wp2_with (first | ((with_reducible refine gate_dst (N:=9) rfl ?_); refine box_event ?hg (N:=9) ?hd (cs := #[.int .i64 0,.int .i64 0]) (t:=49) ?hr ?_; (case hd => rfl); (case hg => rfl); (case hr => first | (go_simp; done) | (go_simp; rfl)); intro gb424 hg w12 hbox hb; have n0_ := Aside0.mk (Kd.R_below (Kd.R_elderB (rA HO_7.out) gb424 (Nat.le_of_eq hg.symm)) hb); have n1_ := Aside0.mk (below_step bA hb); have n2_ := Aside0.mk (hbox); have n3_ := Aside0.mk ((gw hg : w.heap.size ≤ gb424)); have n4_ := Aside0.mk ((gw hg : w.heap.size ≤ gb424)); clear HO_7; clear HB; have HO_7 := n0_; have HB := n1_; have BK424 := n2_; have GW424 := n3_; have GE424 := n4_; clear n0_ n1_ n2_ n3_ n4_; clear hb hbox hg; have hcz13_0 : w12.cell? ⟨gb424,0,none⟩ = some (.int .i64 0) := (blk_cell BK424.out 0).trans rfl; have hcz13_1 : w12.cell? ⟨gb424,1,none⟩ = some (.int .i64 0) := (blk_cell BK424.out 1).trans rfl; have hfz13_0 := blk_frozen BK424.out 0; have hfz13_1 := blk_frozen BK424.out 1) | ((with_reducible refine gate_callee (f:=52) rfl ?_); refine goesL_ (some 22) rfl rfl Tryz.func52 (by kernel_rfl) rfl #[.int .i64 ((rd_T49 l0 x13_1).f0),.int .i64 a1,.int .i64 (wrap64 (a2 - 1))] rfl mA ?_; (with_reducible refine (impl_within.calls ((rd_T49 l0 x13_1).f0) a1 (wrap64 (a2 - 1)) true _ A9.out).mono ?_); rintro e w' ⟨rfl,⟨nd,rfl⟩⟩; refine ⟨_,rfl,?_⟩) | ((with_reducible refine gate_builtin (b:=.append) (xs := #[.tmp 23,.tmp 25]) rfl ?_); at_builtin; refine Kd.R_append k49 (w0 := w) w.heap.size rfl (.tmp 23) (.tmp 25) 45 49 (.agg #[(.int .i64 0),(.int .i64 0)]) 16 rfl Tryz.underlying45 info49 rfl (by decide) (by omega) u7 x7_1 (⟨(rd_T49 l0 x13_1).f0,(rd_T49 l0 x13_1).f1⟩ : S49) [.int .i64 ((rd_T49 l0 x13_1).f0),.int .i64 ((rd_T49 l0 x13_1).f1)] (fun k_ => k_ ≠ gb424) (fun _ => False) rfl (by first | (go_simp; done) | (go_simp; rfl)) ?aP (fun _ hk => hk.elim) ?aF ?aO ?aB ?aS ?aL ?_; (case aP => exact k49_mkM _ _ _ (⟨(rd_T49 l0 x13_1).f0,(rd_T49 l0 x13_1).f1⟩ : S49)); (case aB => exact bA); (case aF => exact (fun k_ hk => Kd.freshB (g:=gb424) (o:=.cells #[.int .i64 ((rd_T49 l0 x13_1).f0),.int .i64 ((rd_T49 l0 x13_1).f1)] 49 (0,0)) (by (with_reducible repeat (first | refine blk_drewN ?_ _ | refine blk_drew ?_ | refine blk_alloc ?_ _)); apply blkp2; (with_reducible repeat (first | refine blk_drewN ?_ _ | refine blk_drew ?_ | refine blk_alloc ?_ _)); exact BK424.out) k_ hk)); (case aO => exact (by (with_reducible repeat (first | apply Kd.R_alloc | apply Kd.R_drewN | apply Kd.R_drew)); exact Kd.R_mono (Kd.R_far (p:=⟨gb424,1,none⟩) (Kd.R_far (p:=⟨gb424,0,none⟩) (Kd.R_mono HO_7.out (fun k_ hk => (⟨hk,hk.2⟩ : _ ∧ k_ ≠ gb424))) (fun _ hk => hk.2) (.int .i64 ((rd_T49 l0 x13_1).f0))) (fun _ hk => hk.2) (.int .i64 ((rd_T49 l0 x13_1).f1))) (fun _ hk => hk.1.2))); (case aS => exact (below_size bA)); (case aL => have := LMc11.out; omega); intro v427 w14 ho hb hg hat; rw [← Ny426.out] at ho; have n0_ := Aside0.mk (blk_grown (g:=gb424) (o:=.cells #[.int .i64 ((rd_T49 l0 x13_1).f0),.int .i64 ((rd_T49 l0 x13_1).f1)] 49 (0,0)) (by (with_reducible repeat (first | refine blk_drewN ?_ _ | refine blk_drew ?_ | refine blk_alloc ?_ _)); apply blkp2; (with_reducible repeat (first | refine blk_drewN ?_ _ | refine blk_drew ?_ | refine blk_alloc ?_ _)); exact BK424.out) hg (Kd.R_away HO_7.out (fun _ hk => hk.2))); have n1_ := Aside0.mk (hb); have n2_ := Aside0.mk (ho); clear BK424; clear HB; clear HO_7; have BK424 := n0_; have HB := n1_; have HO428 := n2_; clear n0_ n1_ n2_; clear ho hb hg hat))
        go_roundg k1
        case measure => have := HK1.out; omega
        case rel => exact ⟨(y426),(wrap64 (x13_1 + 1)),(by first | rfl | (simp; done) | (simp [*]; done)),H',⟨by have := HK1.out; omega⟩,⟨by (with_reducible repeat (first | apply Kd.R_alloc | apply Kd.R_drewN | apply Kd.R_drew)); exact Kd.R_mono HO428.out (fun _ hk => trivial)⟩,⟨bA⟩⟩
       ·rw [if_neg c11] at H
        exact absurd H (by simp)
      ·replace c10 := Bool.eq_false_iff.mpr c10
       subst c10
       rw [if_neg (show ¬ (false = true) by decide)] at H
       have H' := Aside0.mk H
       clear H
       have p423 : 0 ≤ (x13_1 : Int) := od
       have q423 : x13_1 < (l0.length : Int) := od
       obtain ⟨ad423,e423,hx423_0,hx423_1⟩ := at_T49 HR0.out x13_1 p423 q423
       cases e423
       replace hx423_0 := cb HB.out hx423_0
       replace hx423_1 := cb HB.out hx423_1
       replace p423 := eq_true p423
       replace q423 := eq_true q423
       go_wp2_with (first | ((with_reducible refine gate_dst (N:=9) rfl ?_); refine box_event ?hg (N:=9) ?hd (cs := #[.int .i64 0,.int .i64 0]) (t:=49) ?hr ?_; (case hd => rfl); (case hg => rfl); (case hr => first | (go_simp; done) | (go_simp; rfl)); intro gb424 hg w15 hbox hb; have n0_ := Aside0.mk (Kd.R_below (Kd.R_elderB (rA HO_7.out) gb424 (Nat.le_of_eq hg.symm)) hb); have n1_ := Aside0.mk (below_step bA hb); have n2_ := Aside0.mk (hbox); have n3_ := Aside0.mk ((gw hg : w.heap.size ≤ gb424)); have n4_ := Aside0.mk ((gw hg : w.heap.size ≤ gb424)); clear HO_7; clear HB; have HO_7 := n0_; have HB := n1_; have BK424 := n2_; have GW424 := n3_; have GE424 := n4_; clear n0_ n1_ n2_ n3_ n4_; clear hb hbox hg; have hcz16_0 : w15.cell? ⟨gb424,0,none⟩ = some (.int .i64 0) := (blk_cell BK424.out 0).trans rfl; have hcz16_1 : w15.cell? ⟨gb424,1,none⟩ = some (.int .i64 0) := (blk_cell BK424.out 1).trans rfl; have hfz16_0 := blk_frozen BK424.out 0; have hfz16_1 := blk_frozen BK424.out 1) | ((with_reducible refine gate_callee (f:=52) rfl ?_); refine goesL_ (some 22) rfl rfl Tryz.func52 (by kernel_rfl) rfl #[.int .i64 ((rd_T49 l0 x13_1).f0),.int .i64 a1,.int .i64 (wrap64 (a2 - 1))] rfl mA ?_; (with_reducible refine (impl_within.calls ((rd_T49 l0 x13_1).f0) a1 (wrap64 (a2 - 1)) false _ A9.out).mono ?_); rintro e w' ⟨rfl,⟨nd,rfl⟩⟩; refine ⟨_,rfl,?_⟩))
       go_roundg k1
       case measure => have := HK1.out; omega
       case rel => exact ⟨(x7_1),(wrap64 (x13_1 + 1)),(by first | rfl | (simp; done) | (simp [*]; done)),H',⟨by have := HK1.out; omega⟩,⟨by (with_reducible repeat (first | apply Kd.R_alloc | apply Kd.R_drewN | apply Kd.R_drew)); exact Kd.R_mono (Kd.R_far (p:=⟨gb424,1,none⟩) (Kd.R_far (p:=⟨gb424,0,none⟩) (Kd.R_mono HO_7.out (fun k_ hk => (⟨hk,hk.2⟩ : _ ∧ k_ ≠ gb424))) (fun _ hk => hk.2) (.int .i64 ((rd_T49 l0 x13_1).f0))) (fun _ hk => hk.2) (.int .i64 ((rd_T49 l0 x13_1).f1))) (fun _ hk => trivial)⟩,⟨bA⟩⟩
     ·rw [if_neg c8] at H
      exact absurd H (by simp)
    ·rw [if_neg c7] at H
     exact absurd H (by simp)
   ·rw [if_neg c6] at H
    have c6b0 : decide (x13_1 < (l0.length : Int)) = false := decide_eq_false c6
    clear c6
    obtain rfl := Option.some.inj H
    go_wp2
    go_ret
    exact ⟨_,by first | rfl | (simp only [i64_w,i32_w] <;> rfl) | (simp [errW_none,errW_some] <;> rfl) | (simp [*,errW_none,errW_some] <;> rfl),rA HO_7.out,bA⟩

/-! ### strings_Cut: function 53 (by hand) -/
def strings_Cut.f (a0 : ByteArray) (a1 : ByteArray) : Option (ByteArray × ByteArray × Bool) := if a0.size < 4294967281 then some (⟨(Lib.cut a0.data.toList a1.data.toList).1.toArray⟩,⟨(Lib.cut a0.data.toList a1.data.toList).2.1.toArray⟩,(Lib.cut a0.data.toList a1.data.toList).2.2) else none
theorem strings_Cut.calls (a0 : ByteArray) (a1 : ByteArray) (r1 : ByteArray) (r2 : ByteArray) (r3 : Bool) (w : World) (hV : Vars w) (h : strings_Cut.f a0 a1 = some (r1,r2,r3)) :
  Calls Tryz.prog 53 #[.string a0,.string a1] w fun e w' => e = .returned (.tuple #[.string r1,.string r2,.bool r3]) ∧ Below w.heap.size w w' := by
 unfold strings_Cut.f at h
 split at h
 ·rename_i hb
  obtain ⟨e1,e23⟩ := Prod.mk.inj (Option.some.inj h)
  obtain ⟨e2,e3⟩ := Prod.mk.inj e23
  subst e1 e2 e3
  clear h e23
  obtain ⟨m,hm⟩ := hV.max
  exact (Tryz.strings_Cut a0 a1 m w hb hm).mono fun e w' ⟨he,n,hw⟩ => ⟨he,by subst hw; exact (Drawn0.step (Drawn0.refl w) n).below⟩
 ·cases h

/-! ### impl_AggOK: function 74 -/
def impl_AggOK.f (a0_0 : Int) (a0_1 : Int) (a0_2 : Int) (a0_3 : Int) (a0_4 : Int) (a0_5 : Int) : Option (Bool) := if (a0_0 == 0 && (a0_1 == 0 && (a0_2 == 0 && (a0_3 == 0 && (a0_4 == 0 && (a0_5 == 0)))))) = true then (some true) else ((impl_within.f a0_0 1 100000).bind fun t430 => (if t430 = true then ((impl_isValue.f a0_2).bind fun t431 => (if t431 = true then ((impl_isValue.f a0_3).bind fun t432 => (if t432 = true then ((impl_within.f a0_4 a0_2 a0_3).bind fun t433 => (if t433 = true then ((impl_within.f a0_5 a0_2 a0_3).bind fun t434 => (if t434 = true then ((impl_within.f a0_1 (wrap64 (a0_0 * a0_2)) (wrap64 (a0_0 * a0_3))).bind fun t435 => (some t435)) else (some false))) else (some false))) else (some false))) else (some false))) else (some false)))
set_option maxHeartbeats 8000000 in
set_option maxRecDepth 100000 in
theorem impl_AggOK.calls (a0_0 : Int) (a0_1 : Int) (a0_2 : Int) (a0_3 : Int) (a0_4 : Int) (a0_5 : Int) (r : Bool) (w : World) (h : impl_AggOK.f a0_0 a0_1 a0_2 a0_3 a0_4 a0_5 = some r) :
  Calls Tryz.prog 74 #[.agg #[.int .i64 a0_0,.int .i64 a0_1,.int .i64 a0_2,.int .i64 a0_3,.int .i64 a0_4,.int .i64 a0_5]] w fun e w' => e = .returned (.bool r) ∧ Below w.heap.size w w' := by
 have hu26 := Tryz.underlying26
 have HB := Aside0.mk (Below.refl w.heap.size w)
 have H : (if (a0_0 == 0 && (a0_1 == 0 && (a0_2 == 0 && (a0_3 == 0 && (a0_4 == 0 && (a0_5 == 0)))))) = true then (some true) else ((impl_within.f a0_0 1 100000).bind fun t430 => (if t430 = true then ((impl_isValue.f a0_2).bind fun t431 => (if t431 = true then ((impl_isValue.f a0_3).bind fun t432 => (if t432 = true then ((impl_within.f a0_4 a0_2 a0_3).bind fun t433 => (if t433 = true then ((impl_within.f a0_5 a0_2 a0_3).bind fun t434 => (if t434 = true then ((impl_within.f a0_1 (wrap64 (a0_0 * a0_2)) (wrap64 (a0_0 * a0_3))).bind fun t435 => (some t435)) else (some false))) else (some false))) else (some false))) else (some false))) else (some false)))) = some r := h
 clear h
 by_cases c2 : (a0_0 == 0 && (a0_1 == 0 && (a0_2 == 0 && (a0_3 == 0 && (a0_4 == 0 && (a0_5 == 0)))))) = true
 ·rw [if_pos c2] at H
  have c2b0 : (a0_0 == 0 && (a0_1 == 0 && (a0_2 == 0 && (a0_3 == 0 && (a0_4 == 0 && (a0_5 == 0)))))) = true := c2
  (try (have c2b1 : decide (a0_0 = 0 && (a0_1 == 0 && (a0_2 == 0 && (a0_3 == 0 && (a0_4 == 0 && (a0_5 == 0)))))) = true := by simpa using c2))
  (try (have c2b2 : (a0_0 == 0 && (a0_1 == 0 && (a0_2 == 0 && (a0_3 == 0 && (a0_4 == 0 && (a0_5 == 0)))))) = true := by simpa using c2))
  clear c2
  obtain rfl := Option.some.inj H
  go_enter Tryz.func74,Tryz.ntmps74
  go_wp2_with (first | ((with_reducible refine gate_dst (N:=1) rfl ?_); refine box_event ?hg (N:=1) ?hd (cs := #[.int .i64 a0_0,.int .i64 a0_1,.int .i64 a0_2,.int .i64 a0_3,.int .i64 a0_4,.int .i64 a0_5]) (t:=26) ?hr ?_; (case hd => rfl); (case hg => rfl); (case hr => first | (go_simp; done) | (go_simp; rfl)); intro gb429 hg w3 hbox hb; have n0_ := Aside0.mk (below_step bA hb); have n1_ := Aside0.mk (hbox); have n2_ := Aside0.mk ((gw hg : w.heap.size ≤ gb429)); have n3_ := Aside0.mk ((gw hg : w.heap.size ≤ gb429)); clear HB; have HB := n0_; have BK429 := n1_; have GW429 := n2_; have GE429 := n3_; clear n0_ n1_ n2_ n3_; clear hb hbox hg; have hcz4_0 : w3.cell? ⟨gb429,0,none⟩ = some (.int .i64 a0_0) := (blk_cell BK429.out 0).trans rfl; have hcz4_1 : w3.cell? ⟨gb429,1,none⟩ = some (.int .i64 a0_1) := (blk_cell BK429.out 1).trans rfl; have hcz4_2 : w3.cell? ⟨gb429,2,none⟩ = some (.int .i64 a0_2) := (blk_cell BK429.out 2).trans rfl; have hcz4_3 : w3.cell? ⟨gb429,3,none⟩ = some (.int .i64 a0_3) := (blk_cell BK429.out 3).trans rfl; have hcz4_4 : w3.cell? ⟨gb429,4,none⟩ = some (.int .i64 a0_4) := (blk_cell BK429.out 4).trans rfl; have hcz4_5 : w3.cell? ⟨gb429,5,none⟩ = some (.int .i64 a0_5) := (blk_cell BK429.out 5).trans rfl; have hfz4_0 := blk_frozen BK429.out 0; have hfz4_1 := blk_frozen BK429.out 1; have hfz4_2 := blk_frozen BK429.out 2; have hfz4_3 := blk_frozen BK429.out 3; have hfz4_4 := blk_frozen BK429.out 4; have hfz4_5 := blk_frozen BK429.out 5))
  go_ret
  exact ⟨by first | rfl | (simp only [i64_w,i32_w] <;> rfl) | (simp [errW_none,errW_some] <;> rfl) | (simp [*,errW_none,errW_some] <;> rfl),bA⟩
 ·rw [if_neg c2] at H
  have c2b0 : (a0_0 == 0 && (a0_1 == 0 && (a0_2 == 0 && (a0_3 == 0 && (a0_4 == 0 && (a0_5 == 0)))))) = false := by simpa using c2
  (try (have c2b1 : decide (a0_0 = 0 && (a0_1 == 0 && (a0_2 == 0 && (a0_3 == 0 && (a0_4 == 0 && (a0_5 == 0)))))) = false := by simpa using c2))
  (try (have c2b2 : (a0_0 == 0 && (a0_1 == 0 && (a0_2 == 0 && (a0_3 == 0 && (a0_4 == 0 && (a0_5 == 0)))))) = false := by simpa using c2))
  (try (have c2b3 : ¬ (a0_0 = 0 && (a0_1 == 0 && (a0_2 == 0 && (a0_3 == 0 && (a0_4 == 0 && (a0_5 == 0)))))) := by simpa using c2))
  clear c2
  replace H := Option.bind_eq_some_iff.mp H
  obtain ⟨t430,A50,H⟩ := H
  try dsimp only at H
  have A5 := Aside0.mk A50
  clear A50
  by_cases c6 : t430 = true
  ·subst c6
   rw [if_pos rfl] at H
   replace H := Option.bind_eq_some_iff.mp H
   obtain ⟨t431,A70,H⟩ := H
   try dsimp only at H
   have A7 := Aside0.mk A70
   clear A70
   by_cases c8 : t431 = true
   ·subst c8
    rw [if_pos rfl] at H
    replace H := Option.bind_eq_some_iff.mp H
    obtain ⟨t432,A90,H⟩ := H
    try dsimp only at H
    have A9 := Aside0.mk A90
    clear A90
    by_cases c10 : t432 = true
    ·subst c10
     rw [if_pos rfl] at H
     replace H := Option.bind_eq_some_iff.mp H
     obtain ⟨t433,A110,H⟩ := H
     try dsimp only at H
     have A11 := Aside0.mk A110
     clear A110
     by_cases c12 : t433 = true
     ·subst c12
      rw [if_pos rfl] at H
      replace H := Option.bind_eq_some_iff.mp H
      obtain ⟨t434,A130,H⟩ := H
      try dsimp only at H
      have A13 := Aside0.mk A130
      clear A130
      by_cases c14 : t434 = true
      ·subst c14
       rw [if_pos rfl] at H
       replace H := Option.bind_eq_some_iff.mp H
       obtain ⟨t435,A150,H⟩ := H
       try dsimp only at H
       have A15 := Aside0.mk A150
       clear A150
       obtain rfl := Option.some.inj H
       go_enter Tryz.func74,Tryz.ntmps74
       go_wp2_with (first | ((with_reducible refine gate_dst (N:=1) rfl ?_); refine box_event ?hg (N:=1) ?hd (cs := #[.int .i64 a0_0,.int .i64 a0_1,.int .i64 a0_2,.int .i64 a0_3,.int .i64 a0_4,.int .i64 a0_5]) (t:=26) ?hr ?_; (case hd => rfl); (case hg => rfl); (case hr => first | (go_simp; done) | (go_simp; rfl)); intro gb429 hg w16 hbox hb; have n0_ := Aside0.mk (below_step bA hb); have n1_ := Aside0.mk (hbox); have n2_ := Aside0.mk ((gw hg : w.heap.size ≤ gb429)); have n3_ := Aside0.mk ((gw hg : w.heap.size ≤ gb429)); clear HB; have HB := n0_; have BK429 := n1_; have GW429 := n2_; have GE429 := n3_; clear n0_ n1_ n2_ n3_; clear hb hbox hg; have hcz17_0 : w16.cell? ⟨gb429,0,none⟩ = some (.int .i64 a0_0) := (blk_cell BK429.out 0).trans rfl; have hcz17_1 : w16.cell? ⟨gb429,1,none⟩ = some (.int .i64 a0_1) := (blk_cell BK429.out 1).trans rfl; have hcz17_2 : w16.cell? ⟨gb429,2,none⟩ = some (.int .i64 a0_2) := (blk_cell BK429.out 2).trans rfl; have hcz17_3 : w16.cell? ⟨gb429,3,none⟩ = some (.int .i64 a0_3) := (blk_cell BK429.out 3).trans rfl; have hcz17_4 : w16.cell? ⟨gb429,4,none⟩ = some (.int .i64 a0_4) := (blk_cell BK429.out 4).trans rfl; have hcz17_5 : w16.cell? ⟨gb429,5,none⟩ = some (.int .i64 a0_5) := (blk_cell BK429.out 5).trans rfl; have hfz17_0 := blk_frozen BK429.out 0; have hfz17_1 := blk_frozen BK429.out 1; have hfz17_2 := blk_frozen BK429.out 2; have hfz17_3 := blk_frozen BK429.out 3; have hfz17_4 := blk_frozen BK429.out 4; have hfz17_5 := blk_frozen BK429.out 5) | ((with_reducible refine gate_callee (f:=52) rfl ?_); refine goesL_ (some 8) rfl rfl Tryz.func52 (by kernel_rfl) rfl #[.int .i64 a0_0,.int .i64 1,.int .i64 100000] rfl mA ?_; (with_reducible refine (impl_within.calls a0_0 1 100000 true _ A5.out).mono ?_); rintro e w' ⟨rfl,⟨nd,rfl⟩⟩; refine ⟨_,rfl,?_⟩) | (go_at_call 71; (with_reducible refine (impl_isValue.calls a0_2 true _ A7.out).mono ?_); rintro e w' ⟨rfl,⟨nd,rfl⟩⟩) | (go_at_call 71; (with_reducible refine (impl_isValue.calls a0_3 true _ A9.out).mono ?_); rintro e w' ⟨rfl,⟨nd,rfl⟩⟩) | (go_at_call 52; (with_reducible refine (impl_within.calls a0_4 a0_2 a0_3 true _ A11.out).mono ?_); rintro e w' ⟨rfl,⟨nd,rfl⟩⟩) | (go_at_call 52; (with_reducible refine (impl_within.calls a0_5 a0_2 a0_3 true _ A13.out).mono ?_); rintro e w' ⟨rfl,⟨nd,rfl⟩⟩) | (go_at_call 52; (with_reducible refine (impl_within.calls a0_1 (wrap64 (a0_0 * a0_2)) (wrap64 (a0_0 * a0_3)) t435 _ A15.out).mono ?_); rintro e w' ⟨rfl,⟨nd,rfl⟩⟩))
       go_ret
       exact ⟨by first | rfl | (simp only [i64_w,i32_w] <;> rfl) | (simp [errW_none,errW_some] <;> rfl) | (simp [*,errW_none,errW_some] <;> rfl),bA⟩
      ·replace c14 := Bool.eq_false_iff.mpr c14
       subst c14
       rw [if_neg (show ¬ (false = true) by decide)] at H
       obtain rfl := Option.some.inj H
       go_enter Tryz.func74,Tryz.ntmps74
       go_wp2_with (first | ((with_reducible refine gate_dst (N:=1) rfl ?_); refine box_event ?hg (N:=1) ?hd (cs := #[.int .i64 a0_0,.int .i64 a0_1,.int .i64 a0_2,.int .i64 a0_3,.int .i64 a0_4,.int .i64 a0_5]) (t:=26) ?hr ?_; (case hd => rfl); (case hg => rfl); (case hr => first | (go_simp; done) | (go_simp; rfl)); intro gb429 hg w18 hbox hb; have n0_ := Aside0.mk (below_step bA hb); have n1_ := Aside0.mk (hbox); have n2_ := Aside0.mk ((gw hg : w.heap.size ≤ gb429)); have n3_ := Aside0.mk ((gw hg : w.heap.size ≤ gb429)); clear HB; have HB := n0_; have BK429 := n1_; have GW429 := n2_; have GE429 := n3_; clear n0_ n1_ n2_ n3_; clear hb hbox hg; have hcz19_0 : w18.cell? ⟨gb429,0,none⟩ = some (.int .i64 a0_0) := (blk_cell BK429.out 0).trans rfl; have hcz19_1 : w18.cell? ⟨gb429,1,none⟩ = some (.int .i64 a0_1) := (blk_cell BK429.out 1).trans rfl; have hcz19_2 : w18.cell? ⟨gb429,2,none⟩ = some (.int .i64 a0_2) := (blk_cell BK429.out 2).trans rfl; have hcz19_3 : w18.cell? ⟨gb429,3,none⟩ = some (.int .i64 a0_3) := (blk_cell BK429.out 3).trans rfl; have hcz19_4 : w18.cell? ⟨gb429,4,none⟩ = some (.int .i64 a0_4) := (blk_cell BK429.out 4).trans rfl; have hcz19_5 : w18.cell? ⟨gb429,5,none⟩ = some (.int .i64 a0_5) := (blk_cell BK429.out 5).trans rfl; have hfz19_0 := blk_frozen BK429.out 0; have hfz19_1 := blk_frozen BK429.out 1; have hfz19_2 := blk_frozen BK429.out 2; have hfz19_3 := blk_frozen BK429.out 3; have hfz19_4 := blk_frozen BK429.out 4; have hfz19_5 := blk_frozen BK429.out 5) | ((with_reducible refine gate_callee (f:=52) rfl ?_); refine goesL_ (some 8) rfl rfl Tryz.func52 (by kernel_rfl) rfl #[.int .i64 a0_0,.int .i64 1,.int .i64 100000] rfl mA ?_; (with_reducible refine (impl_within.calls a0_0 1 100000 true _ A5.out).mono ?_); rintro e w' ⟨rfl,⟨nd,rfl⟩⟩; refine ⟨_,rfl,?_⟩) | (go_at_call 71; (with_reducible refine (impl_isValue.calls a0_2 true _ A7.out).mono ?_); rintro e w' ⟨rfl,⟨nd,rfl⟩⟩) | (go_at_call 71; (with_reducible refine (impl_isValue.calls a0_3 true _ A9.out).mono ?_); rintro e w' ⟨rfl,⟨nd,rfl⟩⟩) | (go_at_call 52; (with_reducible refine (impl_within.calls a0_4 a0_2 a0_3 true _ A11.out).mono ?_); rintro e w' ⟨rfl,⟨nd,rfl⟩⟩) | (go_at_call 52; (with_reducible refine (impl_within.calls a0_5 a0_2 a0_3 false _ A13.out).mono ?_); rintro e w' ⟨rfl,⟨nd,rfl⟩⟩))
       go_ret
       exact ⟨by first | rfl | (simp only [i64_w,i32_w] <;> rfl) | (simp [errW_none,errW_some] <;> rfl) | (simp [*,errW_none,errW_some] <;> rfl),bA⟩
     ·replace c12 := Bool.eq_false_iff.mpr c12
      subst c12
      rw [if_neg (show ¬ (false = true) by decide)] at H
      obtain rfl := Option.some.inj H
      go_enter Tryz.func74,Tryz.ntmps74
      go_wp2_with (first | ((with_reducible refine gate_dst (N:=1) rfl ?_); refine box_event ?hg (N:=1) ?hd (cs := #[.int .i64 a0_0,.int .i64 a0_1,.int .i64 a0_2,.int .i64 a0_3,.int .i64 a0_4,.int .i64 a0_5]) (t:=26) ?hr ?_; (case hd => rfl); (case hg => rfl); (case hr => first | (go_simp; done) | (go_simp; rfl)); intro gb429 hg w20 hbox hb; have n0_ := Aside0.mk (below_step bA hb); have n1_ := Aside0.mk (hbox); have n2_ := Aside0.mk ((gw hg : w.heap.size ≤ gb429)); have n3_ := Aside0.mk ((gw hg : w.heap.size ≤ gb429)); clear HB; have HB := n0_; have BK429 := n1_; have GW429 := n2_; have GE429 := n3_; clear n0_ n1_ n2_ n3_; clear hb hbox hg; have hcz21_0 : w20.cell? ⟨gb429,0,none⟩ = some (.int .i64 a0_0) := (blk_cell BK429.out 0).trans rfl; have hcz21_1 : w20.cell? ⟨gb429,1,none⟩ = some (.int .i64 a0_1) := (blk_cell BK429.out 1).trans rfl; have hcz21_2 : w20.cell? ⟨gb429,2,none⟩ = some (.int .i64 a0_2) := (blk_cell BK429.out 2).trans rfl; have hcz21_3 : w20.cell? ⟨gb429,3,none⟩ = some (.int .i64 a0_3) := (blk_cell BK429.out 3).trans rfl; have hcz21_4 : w20.cell? ⟨gb429,4,none⟩ = some (.int .i64 a0_4) := (blk_cell BK429.out 4).trans rfl; have hcz21_5 : w20.cell? ⟨gb429,5,none⟩ = some (.int .i64 a0_5) := (blk_cell BK429.out 5).trans rfl; have hfz21_0 := blk_frozen BK429.out 0; have hfz21_1 := blk_frozen BK429.out 1; have hfz21_2 := blk_frozen BK429.out 2; have hfz21_3 := blk_frozen BK429.out 3; have hfz21_4 := blk_frozen BK429.out 4; have hfz21_5 := blk_frozen BK429.out 5) | ((with_reducible refine gate_callee (f:=52) rfl ?_); refine goesL_ (some 8) rfl rfl Tryz.func52 (by kernel_rfl) rfl #[.int .i64 a0_0,.int .i64 1,.int .i64 100000] rfl mA ?_; (with_reducible refine (impl_within.calls a0_0 1 100000 true _ A5.out).mono ?_); rintro e w' ⟨rfl,⟨nd,rfl⟩⟩; refine ⟨_,rfl,?_⟩) | (go_at_call 71; (with_reducible refine (impl_isValue.calls a0_2 true _ A7.out).mono ?_); rintro e w' ⟨rfl,⟨nd,rfl⟩⟩) | (go_at_call 71; (with_reducible refine (impl_isValue.calls a0_3 true _ A9.out).mono ?_); rintro e w' ⟨rfl,⟨nd,rfl⟩⟩) | (go_at_call 52; (with_reducible refine (impl_within.calls a0_4 a0_2 a0_3 false _ A11.out).mono ?_); rintro e w' ⟨rfl,⟨nd,rfl⟩⟩))
      go_ret
      exact ⟨by first | rfl | (simp only [i64_w,i32_w] <;> rfl) | (simp [errW_none,errW_some] <;> rfl) | (simp [*,errW_none,errW_some] <;> rfl),bA⟩
    ·replace c10 := Bool.eq_false_iff.mpr c10
     subst c10
     rw [if_neg (show ¬ (false = true) by decide)] at H
     obtain rfl := Option.some.inj H
     go_enter Tryz.func74,Tryz.ntmps74
     go_wp2_with (first | ((with_reducible refine gate_dst (N:=1) rfl ?_); refine box_event ?hg (N:=1) ?hd (cs := #[.int .i64 a0_0,.int .i64 a0_1,.int .i64 a0_2,.int .i64 a0_3,.int .i64 a0_4,.int .i64 a0_5]) (t:=26) ?hr ?_; (case hd => rfl); (case hg => rfl); (case hr => first | (go_simp; done) | (go_simp; rfl)); intro gb429 hg w22 hbox hb; have n0_ := Aside0.mk (below_step bA hb); have n1_ := Aside0.mk (hbox); have n2_ := Aside0.mk ((gw hg : w.heap.size ≤ gb429)); have n3_ := Aside0.mk ((gw hg : w.heap.size ≤ gb429)); clear HB; have HB := n0_; have BK429 := n1_; have GW429 := n2_; have GE429 := n3_; clear n0_ n1_ n2_ n3_; clear hb hbox hg; have hcz23_0 : w22.cell? ⟨gb429,0,none⟩ = some (.int .i64 a0_0) := (blk_cell BK429.out 0).trans rfl; have hcz23_1 : w22.cell? ⟨gb429,1,none⟩ = some (.int .i64 a0_1) := (blk_cell BK429.out 1).trans rfl; have hcz23_2 : w22.cell? ⟨gb429,2,none⟩ = some (.int .i64 a0_2) := (blk_cell BK429.out 2).trans rfl; have hcz23_3 : w22.cell? ⟨gb429,3,none⟩ = some (.int .i64 a0_3) := (blk_cell BK429.out 3).trans rfl; have hcz23_4 : w22.cell? ⟨gb429,4,none⟩ = some (.int .i64 a0_4) := (blk_cell BK429.out 4).trans rfl; have hcz23_5 : w22.cell? ⟨gb429,5,none⟩ = some (.int .i64 a0_5) := (blk_cell BK429.out 5).trans rfl; have hfz23_0 := blk_frozen BK429.out 0; have hfz23_1 := blk_frozen BK429.out 1; have hfz23_2 := blk_frozen BK429.out 2; have hfz23_3 := blk_frozen BK429.out 3; have hfz23_4 := blk_frozen BK429.out 4; have hfz23_5 := blk_frozen BK429.out 5) | ((with_reducible refine gate_callee (f:=52) rfl ?_); refine goesL_ (some 8) rfl rfl Tryz.func52 (by kernel_rfl) rfl #[.int .i64 a0_0,.int .i64 1,.int .i64 100000] rfl mA ?_; (with_reducible refine (impl_within.calls a0_0 1 100000 true _ A5.out).mono ?_); rintro e w' ⟨rfl,⟨nd,rfl⟩⟩; refine ⟨_,rfl,?_⟩) | (go_at_call 71; (with_reducible refine (impl_isValue.calls a0_2 true _ A7.out).mono ?_); rintro e w' ⟨rfl,⟨nd,rfl⟩⟩) | (go_at_call 71; (with_reducible refine (impl_isValue.calls a0_3 false _ A9.out).mono ?_); rintro e w' ⟨rfl,⟨nd,rfl⟩⟩))
     go_ret
     exact ⟨by first | rfl | (simp only [i64_w,i32_w] <;> rfl) | (simp [errW_none,errW_some] <;> rfl) | (simp [*,errW_none,errW_some] <;> rfl),bA⟩
   ·replace c8 := Bool.eq_false_iff.mpr c8
    subst c8
    rw [if_neg (show ¬ (false = true) by decide)] at H
    obtain rfl := Option.some.inj H
    go_enter Tryz.func74,Tryz.ntmps74
    go_wp2_with (first | ((with_reducible refine gate_dst (N:=1) rfl ?_); refine box_event ?hg (N:=1) ?hd (cs := #[.int .i64 a0_0,.int .i64 a0_1,.int .i64 a0_2,.int .i64 a0_3,.int .i64 a0_4,.int .i64 a0_5]) (t:=26) ?hr ?_; (case hd => rfl); (case hg => rfl); (case hr => first | (go_simp; done) | (go_simp; rfl)); intro gb429 hg w24 hbox hb; have n0_ := Aside0.mk (below_step bA hb); have n1_ := Aside0.mk (hbox); have n2_ := Aside0.mk ((gw hg : w.heap.size ≤ gb429)); have n3_ := Aside0.mk ((gw hg : w.heap.size ≤ gb429)); clear HB; have HB := n0_; have BK429 := n1_; have GW429 := n2_; have GE429 := n3_; clear n0_ n1_ n2_ n3_; clear hb hbox hg; have hcz25_0 : w24.cell? ⟨gb429,0,none⟩ = some (.int .i64 a0_0) := (blk_cell BK429.out 0).trans rfl; have hcz25_1 : w24.cell? ⟨gb429,1,none⟩ = some (.int .i64 a0_1) := (blk_cell BK429.out 1).trans rfl; have hcz25_2 : w24.cell? ⟨gb429,2,none⟩ = some (.int .i64 a0_2) := (blk_cell BK429.out 2).trans rfl; have hcz25_3 : w24.cell? ⟨gb429,3,none⟩ = some (.int .i64 a0_3) := (blk_cell BK429.out 3).trans rfl; have hcz25_4 : w24.cell? ⟨gb429,4,none⟩ = some (.int .i64 a0_4) := (blk_cell BK429.out 4).trans rfl; have hcz25_5 : w24.cell? ⟨gb429,5,none⟩ = some (.int .i64 a0_5) := (blk_cell BK429.out 5).trans rfl; have hfz25_0 := blk_frozen BK429.out 0; have hfz25_1 := blk_frozen BK429.out 1; have hfz25_2 := blk_frozen BK429.out 2; have hfz25_3 := blk_frozen BK429.out 3; have hfz25_4 := blk_frozen BK429.out 4; have hfz25_5 := blk_frozen BK429.out 5) | ((with_reducible refine gate_callee (f:=52) rfl ?_); refine goesL_ (some 8) rfl rfl Tryz.func52 (by kernel_rfl) rfl #[.int .i64 a0_0,.int .i64 1,.int .i64 100000] rfl mA ?_; (with_reducible refine (impl_within.calls a0_0 1 100000 true _ A5.out).mono ?_); rintro e w' ⟨rfl,⟨nd,rfl⟩⟩; refine ⟨_,rfl,?_⟩) | (go_at_call 71; (with_reducible refine (impl_isValue.calls a0_2 false _ A7.out).mono ?_); rintro e w' ⟨rfl,⟨nd,rfl⟩⟩))
    go_ret
    exact ⟨by first | rfl | (simp only [i64_w,i32_w] <;> rfl) | (simp [errW_none,errW_some] <;> rfl) | (simp [*,errW_none,errW_some] <;> rfl),bA⟩
  ·replace c6 := Bool.eq_false_iff.mpr c6
   subst c6
   rw [if_neg (show ¬ (false = true) by decide)] at H
   obtain rfl := Option.some.inj H
   go_enter Tryz.func74,Tryz.ntmps74
   go_wp2_with (first | ((with_reducible refine gate_dst (N:=1) rfl ?_); refine box_event ?hg (N:=1) ?hd (cs := #[.int .i64 a0_0,.int .i64 a0_1,.int .i64 a0_2,.int .i64 a0_3,.int .i64 a0_4,.int .i64 a0_5]) (t:=26) ?hr ?_; (case hd => rfl); (case hg => rfl); (case hr => first | (go_simp; done) | (go_simp; rfl)); intro gb429 hg w26 hbox hb; have n0_ := Aside0.mk (below_step bA hb); have n1_ := Aside0.mk (hbox); have n2_ := Aside0.mk ((gw hg : w.heap.size ≤ gb429)); have n3_ := Aside0.mk ((gw hg : w.heap.size ≤ gb429)); clear HB; have HB := n0_; have BK429 := n1_; have GW429 := n2_; have GE429 := n3_; clear n0_ n1_ n2_ n3_; clear hb hbox hg; have hcz27_0 : w26.cell? ⟨gb429,0,none⟩ = some (.int .i64 a0_0) := (blk_cell BK429.out 0).trans rfl; have hcz27_1 : w26.cell? ⟨gb429,1,none⟩ = some (.int .i64 a0_1) := (blk_cell BK429.out 1).trans rfl; have hcz27_2 : w26.cell? ⟨gb429,2,none⟩ = some (.int .i64 a0_2) := (blk_cell BK429.out 2).trans rfl; have hcz27_3 : w26.cell? ⟨gb429,3,none⟩ = some (.int .i64 a0_3) := (blk_cell BK429.out 3).trans rfl; have hcz27_4 : w26.cell? ⟨gb429,4,none⟩ = some (.int .i64 a0_4) := (blk_cell BK429.out 4).trans rfl; have hcz27_5 : w26.cell? ⟨gb429,5,none⟩ = some (.int .i64 a0_5) := (blk_cell BK429.out 5).trans rfl; have hfz27_0 := blk_frozen BK429.out 0; have hfz27_1 := blk_frozen BK429.out 1; have hfz27_2 := blk_frozen BK429.out 2; have hfz27_3 := blk_frozen BK429.out 3; have hfz27_4 := blk_frozen BK429.out 4; have hfz27_5 := blk_frozen BK429.out 5) | ((with_reducible refine gate_callee (f:=52) rfl ?_); refine goesL_ (some 8) rfl rfl Tryz.func52 (by kernel_rfl) rfl #[.int .i64 a0_0,.int .i64 1,.int .i64 100000] rfl mA ?_; (with_reducible refine (impl_within.calls a0_0 1 100000 false _ A5.out).mono ?_); rintro e w' ⟨rfl,⟨nd,rfl⟩⟩; refine ⟨_,rfl,?_⟩))
   go_ret
   exact ⟨by first | rfl | (simp only [i64_w,i32_w] <;> rfl) | (simp [errW_none,errW_some] <;> rfl) | (simp [*,errW_none,errW_some] <;> rfl),bA⟩

/-! ### impl_readAgg: function 55 -/
def impl_readAgg.f (k : Nat) (a0 : ByteArray) : Option (Int × Int × Int × Int × Int × Int × Bool) := (impl_numbers.f k a0 (⟨#[44]⟩ : ByteArray) 6).bind fun bt437 => (if bt437.2 = true then (if 0 < (bt437.1.length : Int) then (if 1 < (bt437.1.length : Int) then (if 2 < (bt437.1.length : Int) then (if 3 < (bt437.1.length : Int) then (if 4 < (bt437.1.length : Int) then (if 5 < (bt437.1.length : Int) then ((impl_AggOK.f (rd bt437.1 0) (rd bt437.1 1) (rd bt437.1 2) (rd bt437.1 3) (rd bt437.1 4) (rd bt437.1 5)).bind fun t448 => (some (rd bt437.1 0,rd bt437.1 1,rd bt437.1 2,rd bt437.1 3,rd bt437.1 4,rd bt437.1 5,t448))) else (none)) else (none)) else (none)) else (none)) else (none)) else (none)) else (some (0,0,0,0,0,0,false)))
theorem impl_readAgg.mono : ∀ a0 k,LeO (impl_readAgg.f k a0) (impl_readAgg.f (k + 1) a0) := by
 intro a0 k
 unfold impl_readAgg.f
 repeat' first
   | (with_reducible exact impl_numbers.mono _ _ _ _)
   | (with_reducible exact LeO.refl _)
   | (with_reducible exact LeO.none _)
   | (with_reducible refine LeO.ite ?_ ?_)
   | (with_reducible refine LeO.bind ?_ (fun _ => ?_))
   | exact impl_numbers.mono _ _ _ _
   | exact LeO.none _
   | refine LeO.ite ?_ ?_
   | refine LeO.bind ?_ (fun _ => ?_)
def impl_readAgg.T4 : Bool × List (List Nat × List Nat) := (true,[([],[]),([0],[0]),([1],[1]),([],[]),([3],[3]),([4],[4]),([],[]),([6],[6]),([7],[7]),([],[]),([9],[9]),([10],[10]),([],[]),([12],[12]),([13],[13]),([],[]),([15],[15]),([16],[16]),([2,5,8,11,14,17],[2,5,8,11,14,17]),([],[]),([19,18,0,1,2,3,4,5,6,7,8,9,10,11,12,13,14,15,16,17,18,19],[18,19])])
def impl_readAgg.B4 : List Nat := [0,1,3,0,8,24,0,64,192,0,512,1536,0,4096,12288,0,32768,98304,262143,0,1048575]
theorem impl_readAgg.tab4 : rtab .any (opsOf Tryz.f55 4) = impl_readAgg.T4 := by kernel_rfl
theorem impl_readAgg.bits4 : waitsOk impl_readAgg.T4.2 impl_readAgg.B4 = true := by kernel_rfl
set_option maxHeartbeats 8000000 in
set_option maxRecDepth 100000 in
theorem impl_readAgg.calls (k : Nat) (a0 : ByteArray) (r1 : Int) (r2 : Int) (r3 : Int) (r4 : Int) (r5 : Int) (r6 : Int) (r7 : Bool) (w : World) (hV : Vars w) (h : impl_readAgg.f k a0 = some (r1,r2,r3,r4,r5,r6,r7)) :
  Calls Tryz.prog 55 #[.string a0] w fun e w' => e = .returned (.tuple #[.agg #[.int .i64 r1,.int .i64 r2,.int .i64 r3,.int .i64 r4,.int .i64 r5,.int .i64 r6],.bool r7]) ∧ Below w.heap.size w w' := by
 have hu26 := Tryz.underlying26
 have HV := Aside0.mk hV
 clear hV
 have HB := Aside0.mk (Below.refl w.heap.size w)
 have H : ((impl_numbers.f k a0 (⟨#[44]⟩ : ByteArray) 6).bind fun bt437 => (if bt437.2 = true then (if 0 < (bt437.1.length : Int) then (if 1 < (bt437.1.length : Int) then (if 2 < (bt437.1.length : Int) then (if 3 < (bt437.1.length : Int) then (if 4 < (bt437.1.length : Int) then (if 5 < (bt437.1.length : Int) then ((impl_AggOK.f (rd bt437.1 0) (rd bt437.1 1) (rd bt437.1 2) (rd bt437.1 3) (rd bt437.1 4) (rd bt437.1 5)).bind fun t448 => (some (rd bt437.1 0,rd bt437.1 1,rd bt437.1 2,rd bt437.1 3,rd bt437.1 4,rd bt437.1 5,t448))) else (none)) else (none)) else (none)) else (none)) else (none)) else (none)) else (some (0,0,0,0,0,0,false)))) = some (r1,r2,r3,r4,r5,r6,r7) := h
 clear h
 replace H := Option.bind_eq_some_iff.mp H
 obtain ⟨⟨t437,t438⟩,A20,H⟩ := H
 try dsimp only at H
 have A2 := Aside0.mk A20
 clear A20
 by_cases c3 : t438 = true
 ·subst c3
  rw [if_pos rfl] at H
  by_cases c4 : 0 < (t437.length : Int)
  ·rw [if_pos c4] at H
   have c4b0 : decide (0 < (t437.length : Int)) = true := decide_eq_true c4
   have c4b1 : decide (0 < t437.length) = true := decide_eq_true (by omega)
   clear c4
   by_cases c5 : 1 < (t437.length : Int)
   ·rw [if_pos c5] at H
    have c5b0 : decide (1 < (t437.length : Int)) = true := decide_eq_true c5
    have c5b1 : decide (1 < t437.length) = true := decide_eq_true (by omega)
    clear c5
    by_cases c6 : 2 < (t437.length : Int)
    ·rw [if_pos c6] at H
     have c6b0 : decide (2 < (t437.length : Int)) = true := decide_eq_true c6
     have c6b1 : decide (2 < t437.length) = true := decide_eq_true (by omega)
     clear c6
     by_cases c7 : 3 < (t437.length : Int)
     ·rw [if_pos c7] at H
      have c7b0 : decide (3 < (t437.length : Int)) = true := decide_eq_true c7
      have c7b1 : decide (3 < t437.length) = true := decide_eq_true (by omega)
      clear c7
      by_cases c8 : 4 < (t437.length : Int)
      ·rw [if_pos c8] at H
       have c8b0 : decide (4 < (t437.length : Int)) = true := decide_eq_true c8
       have c8b1 : decide (4 < t437.length) = true := decide_eq_true (by omega)
       clear c8
       by_cases c9 : 5 < (t437.length : Int)
       ·rw [if_pos c9] at H
        have c9b0 : decide (5 < (t437.length : Int)) = true := decide_eq_true c9
        have c9b1 : decide (5 < t437.length) = true := decide_eq_true (by omega)
        clear c9
        replace H := Option.bind_eq_some_iff.mp H
        obtain ⟨t448,A100,H⟩ := H
        try dsimp only at H
        have A10 := Aside0.mk A100
        clear A100
        simp only [Option.some.injEq,Prod.mk.injEq] at H
        obtain ⟨rfl,rfl,rfl,rfl,rfl,rfl,rfl⟩ := H
        go_enter Tryz.func55,Tryz.ntmps55
        try go_wp2_with (first | ((with_reducible refine gate_dst (N:=2) rfl ?_); refine box_event ?hg (N:=2) ?hd (cs := #[.int .i64 0,.int .i64 0,.int .i64 0,.int .i64 0,.int .i64 0,.int .i64 0]) (t:=26) ?hr ?_; (case hd => rfl); (case hg => rfl); (case hr => first | (go_simp; done) | (go_simp; rfl)); intro gb436 hg w11 hbox hb; have n0_ := Aside0.mk (below_step bA hb); have n1_ := Aside0.mk (hbox); have n2_ := Aside0.mk ((gw hg : w.heap.size ≤ gb436)); have n3_ := Aside0.mk ((gw hg : w.heap.size ≤ gb436)); clear HB; have HB := n0_; have BK436 := n1_; have GW436 := n2_; have GE436 := n3_; clear n0_ n1_ n2_ n3_; clear hb hbox hg) | ((with_reducible refine gate_callee (f:=49) rfl ?_); refine goesL_ (some 9) rfl rfl Tryz.func49 (by kernel_rfl) rfl #[.string a0,.string (⟨#[44]⟩ : ByteArray),.int .i64 6] rfl mA ?_; (with_reducible refine (impl_numbers.calls k a0 (⟨#[44]⟩ : ByteArray) 6 t437 true _ ?side1 A2.out).mono ?_); (case side1 => exact HV.out.below bA); rintro e w12 ⟨v439,rfl,ho0,hb⟩; refine ⟨_,rfl,?_⟩; have n0_ := Aside0.mk (Kd.R_lower ho0 (below_size bA)); have n1_ := Aside0.mk (blk_below (g:=gb436) (o:=.cells #[.int .i64 0,.int .i64 0,.int .i64 0,.int .i64 0,.int .i64 0,.int .i64 0] 26 (0,0)) (kA BK436.out) hb); have n2_ := Aside0.mk (below_step bA hb); clear BK436; clear HB; have HO440 := n0_; have BK436 := n1_; have HB := n2_; clear n0_ n1_ n2_; (try clear hb); (try clear hb2); (try clear hk); (try clear hi); (try clear ho0)))
        have n0_ := Aside0.mk (Kd.R_drew HO440.out)
        have n1_ := Aside0.mk (blk_drew BK436.out)
        have n2_ := Aside0.mk (below_drew1 HB.out)
        clear HO440
        clear BK436
        clear HB
        have HO440 := n0_
        have BK436 := n1_
        have HB := n2_
        clear n0_ n1_ n2_
        obtain ⟨Ao14,co14,eo14⟩ := Kd.R_slice HO440.out
        (first | subst eo14 | (injection eo14 with f1_ f2_ f3_; have f4_ := f1_.symm; have f5_ := f3_.symm; clear f1_ f2_ f3_; subst f4_; subst f5_))
        have p441 : 0 ≤ (0 : Int) := (by omega)
        have q441 : 0 < (t437.length : Int) := od
        obtain ⟨ad441,e441,hx441_0⟩ := Kd.at_int (Kd.R_reads' HO440.out).2.2 0 p441 q441
        cases e441
        have qi441 : (0 < t437.length) = True := eq_true (by omega)
        (try rw [show ((0 : Int)).toNat = 0 from rfl] at hx441_0)
        (try rw [Addr.add_zero'] at hx441_0)
        replace p441 := eq_true p441
        replace q441 := eq_true q441
        have p442 : 0 ≤ (1 : Int) := (by omega)
        have q442 : 1 < (t437.length : Int) := od
        obtain ⟨ad442,e442,hx442_0⟩ := Kd.at_int (Kd.R_reads' HO440.out).2.2 1 p442 q442
        obtain rfl : ad441 = ad442 := (by injection e442)
        (try simp only [show (1 : Int).toNat = 1 from rfl,Nat.reduceMul,Nat.reduceEqDiff,Go.Addr.add,↓reduceIte] at hx442_0)
        have qi442 : (1 < t437.length) = True := eq_true (by omega)
        (try rw [show ((1 : Int)).toNat = 1 from rfl] at hx442_0)
        replace p442 := eq_true p442
        replace q442 := eq_true q442
        have p443 : 0 ≤ (2 : Int) := (by omega)
        have q443 : 2 < (t437.length : Int) := od
        obtain ⟨ad443,e443,hx443_0⟩ := Kd.at_int (Kd.R_reads' HO440.out).2.2 2 p443 q443
        obtain rfl : ad441 = ad443 := (by injection e443)
        (try simp only [show (2 : Int).toNat = 2 from rfl,Nat.reduceMul,Nat.reduceEqDiff,Go.Addr.add,↓reduceIte] at hx443_0)
        have qi443 : (2 < t437.length) = True := eq_true (by omega)
        (try rw [show ((2 : Int)).toNat = 2 from rfl] at hx443_0)
        replace p443 := eq_true p443
        replace q443 := eq_true q443
        have p444 : 0 ≤ (3 : Int) := (by omega)
        have q444 : 3 < (t437.length : Int) := od
        obtain ⟨ad444,e444,hx444_0⟩ := Kd.at_int (Kd.R_reads' HO440.out).2.2 3 p444 q444
        obtain rfl : ad441 = ad444 := (by injection e444)
        (try simp only [show (3 : Int).toNat = 3 from rfl,Nat.reduceMul,Nat.reduceEqDiff,Go.Addr.add,↓reduceIte] at hx444_0)
        have qi444 : (3 < t437.length) = True := eq_true (by omega)
        (try rw [show ((3 : Int)).toNat = 3 from rfl] at hx444_0)
        replace p444 := eq_true p444
        replace q444 := eq_true q444
        have p445 : 0 ≤ (4 : Int) := (by omega)
        have q445 : 4 < (t437.length : Int) := od
        obtain ⟨ad445,e445,hx445_0⟩ := Kd.at_int (Kd.R_reads' HO440.out).2.2 4 p445 q445
        obtain rfl : ad441 = ad445 := (by injection e445)
        (try simp only [show (4 : Int).toNat = 4 from rfl,Nat.reduceMul,Nat.reduceEqDiff,Go.Addr.add,↓reduceIte] at hx445_0)
        have qi445 : (4 < t437.length) = True := eq_true (by omega)
        (try rw [show ((4 : Int)).toNat = 4 from rfl] at hx445_0)
        replace p445 := eq_true p445
        replace q445 := eq_true q445
        have p446 : 0 ≤ (5 : Int) := (by omega)
        have q446 : 5 < (t437.length : Int) := od
        obtain ⟨ad446,e446,hx446_0⟩ := Kd.at_int (Kd.R_reads' HO440.out).2.2 5 p446 q446
        obtain rfl : ad441 = ad446 := (by injection e446)
        (try simp only [show (5 : Int).toNat = 5 from rfl,Nat.reduceMul,Nat.reduceEqDiff,Go.Addr.add,↓reduceIte] at hx446_0)
        have qi446 : (5 < t437.length) = True := eq_true (by omega)
        (try rw [show ((5 : Int)).toNat = 5 from rfl] at hx446_0)
        replace p446 := eq_true p446
        replace q446 := eq_true q446
        refine start_ (n:=21) (S:=fun w' => w'.cell? ad441 = some (.int .i64 (rd t437 0)) ∧ w'.cell? ⟨ad441.block,ad441.off + 1,none⟩ = some (.int .i64 (rd t437 1)) ∧ w'.cell? ⟨ad441.block,ad441.off + 2,none⟩ = some (.int .i64 (rd t437 2)) ∧ w'.cell? ⟨ad441.block,ad441.off + 3,none⟩ = some (.int .i64 (rd t437 3)) ∧ w'.cell? ⟨ad441.block,ad441.off + 4,none⟩ = some (.int .i64 (rd t437 4)) ∧ w'.cell? ⟨ad441.block,ad441.off + 5,none⟩ = some (.int .i64 (rd t437 5))) (ds := []) (bm 21 0) (by kernel_rfl) rfl rfl ⟨hx441_0,hx442_0,hx443_0,hx444_0,hx445_0,hx446_0⟩ (fun hHeld => ?_); refine with_tabW impl_readAgg.tab4 impl_readAgg.bits4 (fun HT_ HW_ => ?_)
        generalize w12.drew = w13 at HO440 BK436 HB hx441_0 hx442_0 hx443_0 hx444_0 hx445_0 hx446_0 hHeld ⊢
        refine pV_ 0 15 (bm 21 1) HT_.out ?_
        refine pV_ 1 16 (bm 21 3) HT_.out ?_
        refine pV_ 3 18 (bm 21 11) HT_.out ?_
        refine pV_ 4 19 (bm 21 27) HT_.out ?_
        refine pV_ 6 21 (bm 21 91) HT_.out ?_
        refine pV_ 7 22 (bm 21 219) HT_.out ?_
        refine pV_ 9 24 (bm 21 731) HT_.out ?_
        refine pV_ 10 25 (bm 21 1755) HT_.out ?_
        refine pV_ 12 27 (bm 21 5851) HT_.out ?_
        refine pV_ 13 28 (bm 21 14043) HT_.out ?_
        refine pV_ 15 30 (bm 21 46811) HT_.out ?_
        refine pV_ 16 31 (bm 21 112347) HT_.out ?_
        refine take_ (i:=2) (N:=some 17) (v:=?_) (a':=?_) (bm 21 112351) rfl rfl (take_ofW HT_.out HW_.out (by kernel_rfl)) (fun _ _ _ h => h) (Or.inl ⟨by rfl,?_⟩) hHeld ?_ ?_
        rotate_left
        ·rintro w' ⟨s0,s1,s2,s3,s4,s5⟩
         go_simp
         with_reducible rfl
        rotate_left
        ·simp only [Act.put,setIfInBounds_toArray,set_cons_zero,set_cons_succ,i64_w,i32_w]
         rfl
        refine take_ (i:=5) (N:=some 20) (v:=?_) (a':=?_) (bm 21 112383) rfl rfl (take_ofW HT_.out HW_.out (by kernel_rfl)) (fun _ _ _ h => h) (Or.inl ⟨by rfl,?_⟩) hHeld ?_ ?_
        rotate_left
        ·rintro w' ⟨s0,s1,s2,s3,s4,s5⟩
         go_simp
         with_reducible rfl
        rotate_left
        ·simp only [Act.put,setIfInBounds_toArray,set_cons_zero,set_cons_succ,i64_w,i32_w]
         rfl
        refine take_ (i:=8) (N:=some 23) (v:=?_) (a':=?_) (bm 21 112639) rfl rfl (take_ofW HT_.out HW_.out (by kernel_rfl)) (fun _ _ _ h => h) (Or.inl ⟨by rfl,?_⟩) hHeld ?_ ?_
        rotate_left
        ·rintro w' ⟨s0,s1,s2,s3,s4,s5⟩
         go_simp
         with_reducible rfl
        rotate_left
        ·simp only [Act.put,setIfInBounds_toArray,set_cons_zero,set_cons_succ,i64_w,i32_w]
         rfl
        refine take_ (i:=11) (N:=some 26) (v:=?_) (a':=?_) (bm 21 114687) rfl rfl (take_ofW HT_.out HW_.out (by kernel_rfl)) (fun _ _ _ h => h) (Or.inl ⟨by rfl,?_⟩) hHeld ?_ ?_
        rotate_left
        ·rintro w' ⟨s0,s1,s2,s3,s4,s5⟩
         go_simp
         with_reducible rfl
        rotate_left
        ·simp only [Act.put,setIfInBounds_toArray,set_cons_zero,set_cons_succ,i64_w,i32_w]
         rfl
        refine take_ (i:=14) (N:=some 29) (v:=?_) (a':=?_) (bm 21 131071) rfl rfl (take_ofW HT_.out HW_.out (by kernel_rfl)) (fun _ _ _ h => h) (Or.inl ⟨by rfl,?_⟩) hHeld ?_ ?_
        rotate_left
        ·rintro w' ⟨s0,s1,s2,s3,s4,s5⟩
         go_simp
         with_reducible rfl
        rotate_left
        ·simp only [Act.put,setIfInBounds_toArray,set_cons_zero,set_cons_succ,i64_w,i32_w]
         rfl
        refine take_ (i:=17) (N:=some 32) (v:=?_) (a':=?_) (bm 21 262143) rfl rfl (take_ofW HT_.out HW_.out (by kernel_rfl)) (fun _ _ _ h => h) (Or.inl ⟨by rfl,?_⟩) hHeld ?_ ?_
        rotate_left
        ·rintro w' ⟨s0,s1,s2,s3,s4,s5⟩
         go_simp
         with_reducible rfl
        rotate_left
        ·simp only [Act.put,setIfInBounds_toArray,set_cons_zero,set_cons_succ,i64_w,i32_w]
         rfl
        refine pV_ 18 33 (bm 21 524287) HT_.out ?_
        refine one_ (i:=19) (N:=some 6) (bm 21 1048575) rfl rfl (one_of HT_.out (by kernel_rfl)) (by decide) (fun K hK => ?_)
        refine box_step ?hg (N:=6) ?hd (cs := #[.int .i64 0,.int .i64 0,.int .i64 0,.int .i64 0,.int .i64 0,.int .i64 0]) (t:=26) ?hr ?_; (case hd => rfl); (case hg => rfl); (case hr => first | (go_simp; done) | (go_simp; rfl))
        intro gb447 hg w15 hbox hb
        have HS0_ := (hb.cell (World.block_lt_of_cell? _ _ (hHeld.1))).trans (hHeld.1)
        have HS1_ := (hb.cell (World.block_lt_of_cell? _ _ (hHeld.2.1))).trans (hHeld.2.1)
        have HS2_ := (hb.cell (World.block_lt_of_cell? _ _ (hHeld.2.2.1))).trans (hHeld.2.2.1)
        have HS3_ := (hb.cell (World.block_lt_of_cell? _ _ (hHeld.2.2.2.1))).trans (hHeld.2.2.2.1)
        have HS4_ := (hb.cell (World.block_lt_of_cell? _ _ (hHeld.2.2.2.2.1))).trans (hHeld.2.2.2.2.1)
        have HS5_ := (hb.cell (World.block_lt_of_cell? _ _ (hHeld.2.2.2.2.2))).trans (hHeld.2.2.2.2.2)
        have n0_ := Aside0.mk (Kd.R_below (rA HO440.out) hb)
        have n1_ := Aside0.mk (blk_below (g:=gb436) (o:=.cells #[.int .i64 0,.int .i64 0,.int .i64 0,.int .i64 0,.int .i64 0,.int .i64 0] 26 (0,0)) (kA BK436.out) hb)
        have n2_ := Aside0.mk (below_step bA hb)
        have n3_ := Aside0.mk (hbox)
        have n4_ := Aside0.mk ((gw hg : w.heap.size ≤ gb447))
        have n5_ := Aside0.mk ((gw hg : w.heap.size ≤ gb447))
        have n6_ := Aside0.mk ((by rw [hg]; exact Nat.ne_of_lt (blk_lt (g:=gb436) (o:=.cells #[.int .i64 0,.int .i64 0,.int .i64 0,.int .i64 0,.int .i64 0,.int .i64 0] 26 (0,0)) (kA BK436.out)) : gb436 ≠ gb447))
        have n7_ := Aside0.mk ((by rw [hg]; exact Nat.ne_of_gt (blk_lt (g:=gb436) (o:=.cells #[.int .i64 0,.int .i64 0,.int .i64 0,.int .i64 0,.int .i64 0,.int .i64 0] 26 (0,0)) (kA BK436.out)) : gb447 ≠ gb436))
        clear HO440
        clear BK436
        clear HB
        have HO440 := n0_
        have BK436 := n1_
        have HB := n2_
        have BK447 := n3_
        have GW447 := n4_
        have GE447 := n5_
        have NB436_447 := n6_
        have NB447_436 := n7_
        clear n0_ n1_ n2_ n3_ n4_ n5_ n6_ n7_
        clear hb hbox hg
        refine hK.out _ _ ⟨HS0_,HS1_,HS2_,HS3_,HS4_,HS5_⟩ (fun hHeld => ?_)
        clear hK K
        refine norm_ (a':=?_) ?_ ?_
        rotate_left
        ·show Act.put _ (some 6) _ = _
         simp only [Act.put,setIfInBounds_toArray,set_cons_zero,set_cons_succ,i64_w,i32_w]
         rfl
        refine one_ (i:=20) (N:=none) (bm 21 2097151) rfl rfl (one_of HT_.out (by kernel_rfl)) (by decide) (fun K hK => ?_)
        have hs16 : w15.cell? ⟨gb447,0,none⟩ = some (.int .i64 0) := (blk_cell BK447.out 0).trans rfl
        have hfs16 := blk_frozen BK447.out 0
        have hns16_0 := NB436_447.out
        have hms16_0 := NB447_436.out
        have hs17 : w15.cell? ⟨gb447,1,none⟩ = some (.int .i64 0) := (blk_cell BK447.out 1).trans rfl
        have hfs17 := blk_frozen BK447.out 1
        have hns17_0 := NB436_447.out
        have hms17_0 := NB447_436.out
        have hs18 : w15.cell? ⟨gb447,2,none⟩ = some (.int .i64 0) := (blk_cell BK447.out 2).trans rfl
        have hfs18 := blk_frozen BK447.out 2
        have hns18_0 := NB436_447.out
        have hms18_0 := NB447_436.out
        have hs19 : w15.cell? ⟨gb447,3,none⟩ = some (.int .i64 0) := (blk_cell BK447.out 3).trans rfl
        have hfs19 := blk_frozen BK447.out 3
        have hns19_0 := NB436_447.out
        have hms19_0 := NB447_436.out
        have hs20 : w15.cell? ⟨gb447,4,none⟩ = some (.int .i64 0) := (blk_cell BK447.out 4).trans rfl
        have hfs20 := blk_frozen BK447.out 4
        have hns20_0 := NB436_447.out
        have hms20_0 := NB447_436.out
        have hs21 : w15.cell? ⟨gb447,5,none⟩ = some (.int .i64 0) := (blk_cell BK447.out 5).trans rfl
        have hfs21 := blk_frozen BK447.out 5
        have hns21_0 := NB436_447.out
        have hms21_0 := NB447_436.out
        refine skip_ (w1 := ?_) (by rfl) rfl ?_ ?_
        rotate_left
        ·go_simp
         rfl
        refine hK.out _ _ ⟨((cfA (p:=⟨gb447,_,none⟩) (Kd.own_blk (Kd.R_ne HO440.out BK447.out (by decide)))).trans (((cfA (p:=⟨gb447,_,none⟩) (Kd.own_blk (Kd.R_ne HO440.out BK447.out (by decide)))).trans (((cfA (p:=⟨gb447,_,none⟩) (Kd.own_blk (Kd.R_ne HO440.out BK447.out (by decide)))).trans (((cfA (p:=⟨gb447,_,none⟩) (Kd.own_blk (Kd.R_ne HO440.out BK447.out (by decide)))).trans (((cfA (p:=⟨gb447,_,none⟩) (Kd.own_blk (Kd.R_ne HO440.out BK447.out (by decide)))).trans (((cfA (p:=⟨gb447,_,none⟩) (Kd.own_blk (Kd.R_ne HO440.out BK447.out (by decide)))).trans (hHeld.1)))))))))))),((cfA (p:=⟨gb447,_,none⟩) (Kd.own_blk (Kd.R_ne HO440.out BK447.out (by decide)))).trans (((cfA (p:=⟨gb447,_,none⟩) (Kd.own_blk (Kd.R_ne HO440.out BK447.out (by decide)))).trans (((cfA (p:=⟨gb447,_,none⟩) (Kd.own_blk (Kd.R_ne HO440.out BK447.out (by decide)))).trans (((cfA (p:=⟨gb447,_,none⟩) (Kd.own_blk (Kd.R_ne HO440.out BK447.out (by decide)))).trans (((cfA (p:=⟨gb447,_,none⟩) (Kd.own_blk (Kd.R_ne HO440.out BK447.out (by decide)))).trans (((cfA (p:=⟨gb447,_,none⟩) (Kd.own_blk (Kd.R_ne HO440.out BK447.out (by decide)))).trans (hHeld.2.1)))))))))))),((cfA (p:=⟨gb447,_,none⟩) (Kd.own_blk (Kd.R_ne HO440.out BK447.out (by decide)))).trans (((cfA (p:=⟨gb447,_,none⟩) (Kd.own_blk (Kd.R_ne HO440.out BK447.out (by decide)))).trans (((cfA (p:=⟨gb447,_,none⟩) (Kd.own_blk (Kd.R_ne HO440.out BK447.out (by decide)))).trans (((cfA (p:=⟨gb447,_,none⟩) (Kd.own_blk (Kd.R_ne HO440.out BK447.out (by decide)))).trans (((cfA (p:=⟨gb447,_,none⟩) (Kd.own_blk (Kd.R_ne HO440.out BK447.out (by decide)))).trans (((cfA (p:=⟨gb447,_,none⟩) (Kd.own_blk (Kd.R_ne HO440.out BK447.out (by decide)))).trans (hHeld.2.2.1)))))))))))),((cfA (p:=⟨gb447,_,none⟩) (Kd.own_blk (Kd.R_ne HO440.out BK447.out (by decide)))).trans (((cfA (p:=⟨gb447,_,none⟩) (Kd.own_blk (Kd.R_ne HO440.out BK447.out (by decide)))).trans (((cfA (p:=⟨gb447,_,none⟩) (Kd.own_blk (Kd.R_ne HO440.out BK447.out (by decide)))).trans (((cfA (p:=⟨gb447,_,none⟩) (Kd.own_blk (Kd.R_ne HO440.out BK447.out (by decide)))).trans (((cfA (p:=⟨gb447,_,none⟩) (Kd.own_blk (Kd.R_ne HO440.out BK447.out (by decide)))).trans (((cfA (p:=⟨gb447,_,none⟩) (Kd.own_blk (Kd.R_ne HO440.out BK447.out (by decide)))).trans (hHeld.2.2.2.1)))))))))))),((cfA (p:=⟨gb447,_,none⟩) (Kd.own_blk (Kd.R_ne HO440.out BK447.out (by decide)))).trans (((cfA (p:=⟨gb447,_,none⟩) (Kd.own_blk (Kd.R_ne HO440.out BK447.out (by decide)))).trans (((cfA (p:=⟨gb447,_,none⟩) (Kd.own_blk (Kd.R_ne HO440.out BK447.out (by decide)))).trans (((cfA (p:=⟨gb447,_,none⟩) (Kd.own_blk (Kd.R_ne HO440.out BK447.out (by decide)))).trans (((cfA (p:=⟨gb447,_,none⟩) (Kd.own_blk (Kd.R_ne HO440.out BK447.out (by decide)))).trans (((cfA (p:=⟨gb447,_,none⟩) (Kd.own_blk (Kd.R_ne HO440.out BK447.out (by decide)))).trans (hHeld.2.2.2.2.1)))))))))))),((cfA (p:=⟨gb447,_,none⟩) (Kd.own_blk (Kd.R_ne HO440.out BK447.out (by decide)))).trans (((cfA (p:=⟨gb447,_,none⟩) (Kd.own_blk (Kd.R_ne HO440.out BK447.out (by decide)))).trans (((cfA (p:=⟨gb447,_,none⟩) (Kd.own_blk (Kd.R_ne HO440.out BK447.out (by decide)))).trans (((cfA (p:=⟨gb447,_,none⟩) (Kd.own_blk (Kd.R_ne HO440.out BK447.out (by decide)))).trans (((cfA (p:=⟨gb447,_,none⟩) (Kd.own_blk (Kd.R_ne HO440.out BK447.out (by decide)))).trans (((cfA (p:=⟨gb447,_,none⟩) (Kd.own_blk (Kd.R_ne HO440.out BK447.out (by decide)))).trans (hHeld.2.2.2.2.2))))))))))))⟩ (fun hHeld => ?_)
        clear hK K
        refine done_ (done_of HT_.out (by kernel_rfl)) ?_
        try go_wp2
        have n0_ : Aside0 (Kd.R (Kd.int .i64) 3 ((((((w15.setCell ⟨gb447,0,none⟩ (.int .i64 (rd t437 0))).setCell ⟨gb447,1,none⟩ (.int .i64 (rd t437 1))).setCell ⟨gb447,2,none⟩ (.int .i64 (rd t437 2))).setCell ⟨gb447,3,none⟩ (.int .i64 (rd t437 3))).setCell ⟨gb447,4,none⟩ (.int .i64 (rd t437 4))).setCell ⟨gb447,5,none⟩ (.int .i64 (rd t437 5))) w.heap.size (fun _ => True) (.slice (some ad441) t437.length co14) t437) := ⟨by (with_reducible repeat (first | apply Kd.R_alloc | apply Kd.R_drewN | apply Kd.R_drew)); exact Kd.R_mono (Kd.R_far (p:=⟨gb447,5,none⟩) (Kd.R_far (p:=⟨gb447,4,none⟩) (Kd.R_far (p:=⟨gb447,3,none⟩) (Kd.R_far (p:=⟨gb447,2,none⟩) (Kd.R_far (p:=⟨gb447,1,none⟩) (Kd.R_far (p:=⟨gb447,0,none⟩) (Kd.R_types HO440.out BK447.out (by decide)) (fun _ hk => hk.2) (.int .i64 (rd t437 0))) (fun _ hk => hk.2) (.int .i64 (rd t437 1))) (fun _ hk => hk.2) (.int .i64 (rd t437 2))) (fun _ hk => hk.2) (.int .i64 (rd t437 3))) (fun _ hk => hk.2) (.int .i64 (rd t437 4))) (fun _ hk => hk.2) (.int .i64 (rd t437 5))) (fun _ hk => trivial)⟩
        have n1_ : Aside0 (((((((w15.setCell ⟨gb447,0,none⟩ (.int .i64 (rd t437 0))).setCell ⟨gb447,1,none⟩ (.int .i64 (rd t437 1))).setCell ⟨gb447,2,none⟩ (.int .i64 (rd t437 2))).setCell ⟨gb447,3,none⟩ (.int .i64 (rd t437 3))).setCell ⟨gb447,4,none⟩ (.int .i64 (rd t437 4))).setCell ⟨gb447,5,none⟩ (.int .i64 (rd t437 5))).heap[gb436]? = some (.cells #[.int .i64 0,.int .i64 0,.int .i64 0,.int .i64 0,.int .i64 0,.int .i64 0] 26 (0,0))) := ⟨kF BK436.out⟩
        have n2_ : Aside0 (((((((w15.setCell ⟨gb447,0,none⟩ (.int .i64 (rd t437 0))).setCell ⟨gb447,1,none⟩ (.int .i64 (rd t437 1))).setCell ⟨gb447,2,none⟩ (.int .i64 (rd t437 2))).setCell ⟨gb447,3,none⟩ (.int .i64 (rd t437 3))).setCell ⟨gb447,4,none⟩ (.int .i64 (rd t437 4))).setCell ⟨gb447,5,none⟩ (.int .i64 (rd t437 5))).heap[gb447]? = some (.cells #[.int .i64 (rd t437 0),.int .i64 (rd t437 1),.int .i64 (rd t437 2),.int .i64 (rd t437 3),.int .i64 (rd t437 4),.int .i64 (rd t437 5)] 26 (0,0))) := ⟨by (with_reducible repeat (first | refine blk_drewN ?_ _ | refine blk_drew ?_ | refine blk_alloc ?_ _)); apply blkp6; (with_reducible repeat (first | refine blk_drewN ?_ _ | refine blk_drew ?_ | refine blk_alloc ?_ _)); exact BK447.out⟩
        have n3_ : Aside0 (Below w.heap.size w ((((((w15.setCell ⟨gb447,0,none⟩ (.int .i64 (rd t437 0))).setCell ⟨gb447,1,none⟩ (.int .i64 (rd t437 1))).setCell ⟨gb447,2,none⟩ (.int .i64 (rd t437 2))).setCell ⟨gb447,3,none⟩ (.int .i64 (rd t437 3))).setCell ⟨gb447,4,none⟩ (.int .i64 (rd t437 4))).setCell ⟨gb447,5,none⟩ (.int .i64 (rd t437 5)))) := ⟨bA⟩
        (try clear HO440)
        (try clear BK436)
        (try clear BK447)
        (try clear HB)
        generalize ((((((w15.setCell ⟨gb447,0,none⟩ (.int .i64 (rd t437 0))).setCell ⟨gb447,1,none⟩ (.int .i64 (rd t437 1))).setCell ⟨gb447,2,none⟩ (.int .i64 (rd t437 2))).setCell ⟨gb447,3,none⟩ (.int .i64 (rd t437 3))).setCell ⟨gb447,4,none⟩ (.int .i64 (rd t437 4))).setCell ⟨gb447,5,none⟩ (.int .i64 (rd t437 5))) = w22 at n0_ n1_ n2_ n3_ ⊢
        have HO440 := n0_
        have BK436 := n1_
        have BK447 := n2_
        have HB := n3_
        clear n0_ n1_ n2_ n3_
        have n0_ := Aside0.mk (Kd.R_drew HO440.out)
        have n1_ := Aside0.mk (blk_drew BK436.out)
        have n2_ := Aside0.mk (blk_drew BK447.out)
        have n3_ := Aside0.mk (below_drew1 HB.out)
        clear HO440
        clear BK436
        clear BK447
        clear HB
        have HO440 := n0_
        have BK436 := n1_
        have BK447 := n2_
        have HB := n3_
        clear n0_ n1_ n2_ n3_
        refine start_ (n:=5) (S:=fun w' => w'.cell? ⟨gb447,0,none⟩ = some (.int .i64 (rd t437 0)) ∧ w'.cell? ⟨gb447,1,none⟩ = some (.int .i64 (rd t437 1)) ∧ w'.cell? ⟨gb447,2,none⟩ = some (.int .i64 (rd t437 2)) ∧ w'.cell? ⟨gb447,3,none⟩ = some (.int .i64 (rd t437 3)) ∧ w'.cell? ⟨gb447,4,none⟩ = some (.int .i64 (rd t437 4)) ∧ w'.cell? ⟨gb447,5,none⟩ = some (.int .i64 (rd t437 5))) (ds := []) (bm 5 0) (by kernel_rfl) rfl rfl ⟨(blk_cell BK447.out 0).trans rfl,(blk_cell BK447.out 1).trans rfl,(blk_cell BK447.out 2).trans rfl,(blk_cell BK447.out 3).trans rfl,(blk_cell BK447.out 4).trans rfl,(blk_cell BK447.out 5).trans rfl⟩ (fun hHeld => ?_)
        generalize w22.drew = w23 at HO440 BK436 BK447 HB hHeld ⊢
        refine take_ (i:=0) (N:=some 34) (v:=?_) (a':=?_) (bm 5 1) rfl rfl (by kernel_rfl) (fun _ _ _ h => h) (Or.inl ⟨by rfl,?_⟩) hHeld ?_ ?_
        rotate_left
        ·rintro w' ⟨s0,s1,s2,s3,s4,s5⟩
         go_simp
         with_reducible rfl
        rotate_left
        ·simp only [Act.put,setIfInBounds_toArray,set_cons_zero,set_cons_succ,i64_w,i32_w]
         rfl
        refine take_ (i:=1) (N:=some 35) (v:=?_) (a':=?_) (bm 5 3) rfl rfl (by kernel_rfl) (fun _ _ _ h => h) (Or.inl ⟨by rfl,?_⟩) hHeld ?_ ?_
        rotate_left
        ·rintro w' ⟨s0,s1,s2,s3,s4,s5⟩
         go_simp
         with_reducible rfl
        rotate_left
        ·simp only [Act.put,setIfInBounds_toArray,set_cons_zero,set_cons_succ,i64_w,i32_w]
         rfl
        refine one_ (i:=2) (N:=some 36) (bm 5 7) rfl rfl (by kernel_rfl) (by decide) (fun K hK => ?_)
        refine goes_ Tryz.func74 (by kernel_rfl) rfl #[.agg #[.int .i64 (rd t437 0),.int .i64 (rd t437 1),.int .i64 (rd t437 2),.int .i64 (rd t437 3),.int .i64 (rd t437 4),.int .i64 (rd t437 5)]] (by rfl) rfl rfl mA ?_
        with_reducible refine (impl_AggOK.calls (rd t437 0) (rd t437 1) (rd t437 2) (rd t437 3) (rd t437 4) (rd t437 5) t448 _ A10.out).mono ?_
        rintro e w24 ⟨rfl,hb⟩
        refine ⟨_,rfl,?_⟩
        have n0_ := Aside0.mk (Kd.R_below (rA HO440.out) hb)
        have n1_ := Aside0.mk (blk_below (g:=gb436) (o:=.cells #[.int .i64 0,.int .i64 0,.int .i64 0,.int .i64 0,.int .i64 0,.int .i64 0] 26 (0,0)) (kA BK436.out) hb)
        have n2_ := Aside0.mk (blk_below (g:=gb447) (o:=.cells #[.int .i64 (rd t437 0),.int .i64 (rd t437 1),.int .i64 (rd t437 2),.int .i64 (rd t437 3),.int .i64 (rd t437 4),.int .i64 (rd t437 5)] 26 (0,0)) (kA BK447.out) hb)
        have n3_ := Aside0.mk (below_step bA hb)
        clear HO440
        clear BK436
        clear BK447
        clear HB
        have HO440 := n0_
        have BK436 := n1_
        have BK447 := n2_
        have HB := n3_
        clear n0_ n1_ n2_ n3_
        (try clear hb)
        (try clear hb2)
        (try clear hk)
        (try clear hi)
        refine hK.out _ _ ⟨(blk_cell BK447.out 0).trans rfl,(blk_cell BK447.out 1).trans rfl,(blk_cell BK447.out 2).trans rfl,(blk_cell BK447.out 3).trans rfl,(blk_cell BK447.out 4).trans rfl,(blk_cell BK447.out 5).trans rfl⟩ (fun hHeld => ?_)
        clear hK K
        refine norm_ (a':=?_) ?_ ?_
        rotate_left
        ·show Act.put _ (some 36) _ = _
         simp only [Act.put,setIfInBounds_toArray,set_cons_zero,set_cons_succ,i64_w,i32_w]
         rfl
        refine one_ (i:=3) (N:=none) (bm 5 15) rfl rfl (by kernel_rfl) (by decide) (fun K hK => ?_)
        have hs25 : w24.cell? ⟨gb436,0,none⟩ = some (.int .i64 0) := (blk_cell BK436.out 0).trans rfl
        have hfs25 := blk_frozen BK436.out 0
        have hns25_1 := NB447_436.out
        have hms25_1 := NB436_447.out
        have hs26 : w24.cell? ⟨gb436,1,none⟩ = some (.int .i64 0) := (blk_cell BK436.out 1).trans rfl
        have hfs26 := blk_frozen BK436.out 1
        have hns26_1 := NB447_436.out
        have hms26_1 := NB436_447.out
        have hs27 : w24.cell? ⟨gb436,2,none⟩ = some (.int .i64 0) := (blk_cell BK436.out 2).trans rfl
        have hfs27 := blk_frozen BK436.out 2
        have hns27_1 := NB447_436.out
        have hms27_1 := NB436_447.out
        have hs28 : w24.cell? ⟨gb436,3,none⟩ = some (.int .i64 0) := (blk_cell BK436.out 3).trans rfl
        have hfs28 := blk_frozen BK436.out 3
        have hns28_1 := NB447_436.out
        have hms28_1 := NB436_447.out
        have hs29 : w24.cell? ⟨gb436,4,none⟩ = some (.int .i64 0) := (blk_cell BK436.out 4).trans rfl
        have hfs29 := blk_frozen BK436.out 4
        have hns29_1 := NB447_436.out
        have hms29_1 := NB436_447.out
        have hs30 : w24.cell? ⟨gb436,5,none⟩ = some (.int .i64 0) := (blk_cell BK436.out 5).trans rfl
        have hfs30 := blk_frozen BK436.out 5
        have hns30_1 := NB447_436.out
        have hms30_1 := NB436_447.out
        refine skip_ (w1 := ?_) (by rfl) rfl ?_ ?_
        rotate_left
        ·go_simp
         rfl
        refine hK.out _ _ ⟨((cell_far (p:=⟨gb436,_,none⟩) NB447_436.out _).trans (((cell_far (p:=⟨gb436,_,none⟩) NB447_436.out _).trans (((cell_far (p:=⟨gb436,_,none⟩) NB447_436.out _).trans (((cell_far (p:=⟨gb436,_,none⟩) NB447_436.out _).trans (((cell_far (p:=⟨gb436,_,none⟩) NB447_436.out _).trans (((cell_far (p:=⟨gb436,_,none⟩) NB447_436.out _).trans (hHeld.1)))))))))))),((cell_far (p:=⟨gb436,_,none⟩) NB447_436.out _).trans (((cell_far (p:=⟨gb436,_,none⟩) NB447_436.out _).trans (((cell_far (p:=⟨gb436,_,none⟩) NB447_436.out _).trans (((cell_far (p:=⟨gb436,_,none⟩) NB447_436.out _).trans (((cell_far (p:=⟨gb436,_,none⟩) NB447_436.out _).trans (((cell_far (p:=⟨gb436,_,none⟩) NB447_436.out _).trans (hHeld.2.1)))))))))))),((cell_far (p:=⟨gb436,_,none⟩) NB447_436.out _).trans (((cell_far (p:=⟨gb436,_,none⟩) NB447_436.out _).trans (((cell_far (p:=⟨gb436,_,none⟩) NB447_436.out _).trans (((cell_far (p:=⟨gb436,_,none⟩) NB447_436.out _).trans (((cell_far (p:=⟨gb436,_,none⟩) NB447_436.out _).trans (((cell_far (p:=⟨gb436,_,none⟩) NB447_436.out _).trans (hHeld.2.2.1)))))))))))),((cell_far (p:=⟨gb436,_,none⟩) NB447_436.out _).trans (((cell_far (p:=⟨gb436,_,none⟩) NB447_436.out _).trans (((cell_far (p:=⟨gb436,_,none⟩) NB447_436.out _).trans (((cell_far (p:=⟨gb436,_,none⟩) NB447_436.out _).trans (((cell_far (p:=⟨gb436,_,none⟩) NB447_436.out _).trans (((cell_far (p:=⟨gb436,_,none⟩) NB447_436.out _).trans (hHeld.2.2.2.1)))))))))))),((cell_far (p:=⟨gb436,_,none⟩) NB447_436.out _).trans (((cell_far (p:=⟨gb436,_,none⟩) NB447_436.out _).trans (((cell_far (p:=⟨gb436,_,none⟩) NB447_436.out _).trans (((cell_far (p:=⟨gb436,_,none⟩) NB447_436.out _).trans (((cell_far (p:=⟨gb436,_,none⟩) NB447_436.out _).trans (((cell_far (p:=⟨gb436,_,none⟩) NB447_436.out _).trans (hHeld.2.2.2.2.1)))))))))))),((cell_far (p:=⟨gb436,_,none⟩) NB447_436.out _).trans (((cell_far (p:=⟨gb436,_,none⟩) NB447_436.out _).trans (((cell_far (p:=⟨gb436,_,none⟩) NB447_436.out _).trans (((cell_far (p:=⟨gb436,_,none⟩) NB447_436.out _).trans (((cell_far (p:=⟨gb436,_,none⟩) NB447_436.out _).trans (((cell_far (p:=⟨gb436,_,none⟩) NB447_436.out _).trans (hHeld.2.2.2.2.2))))))))))))⟩ (fun hHeld => ?_)
        clear hK K
        refine pure_ (i:=4) (N:=some 3) (v:=?_) (a':=?_) (bm 5 31) rfl rfl (by kernel_rfl) (fun _ _ _ h => h) (Or.inl ⟨by rfl,?_⟩) ?_ ?_
        rotate_left
        ·intro w'
         go_simp
         with_reducible rfl
        rotate_left
        ·simp only [Act.put,setIfInBounds_toArray,set_cons_zero,set_cons_succ,i64_w,i32_w]
         rfl
        refine done_ (by kernel_rfl) ?_
        try go_wp2
        refine bodyPost_ret (results_ct rfl _ _ gb436 26 #[.int .i64 (rd t437 0),.int .i64 (rd t437 1),.int .i64 (rd t437 2),.int .i64 (rd t437 3),.int .i64 (rd t437 4),.int .i64 (rd t437 5)] (0,0) _ rfl (by (with_reducible repeat (first | refine blk_drewN ?_ _ | refine blk_drew ?_ | refine blk_alloc ?_ _)); apply blkp6; (with_reducible repeat (first | refine blk_drewN ?_ _ | refine blk_drew ?_ | refine blk_alloc ?_ _)); exact BK436.out) Tryz.underlying26 rfl (by kernel_rfl)) rfl ?_
        exact ⟨by first | rfl | (simp [errW_none,errW_some] <;> rfl) | (simp [*,errW_none,errW_some] <;> rfl),bA⟩
       ·rw [if_neg c9] at H
        exact absurd H (by simp)
      ·rw [if_neg c8] at H
       exact absurd H (by simp)
     ·rw [if_neg c7] at H
      exact absurd H (by simp)
    ·rw [if_neg c6] at H
     exact absurd H (by simp)
   ·rw [if_neg c5] at H
    exact absurd H (by simp)
  ·rw [if_neg c4] at H
   exact absurd H (by simp)
 ·replace c3 := Bool.eq_false_iff.mpr c3
  subst c3
  rw [if_neg (show ¬ (false = true) by decide)] at H
  simp only [Option.some.injEq,Prod.mk.injEq] at H
  obtain ⟨rfl,rfl,rfl,rfl,rfl,rfl,rfl⟩ := H
  go_enter Tryz.func55,Tryz.ntmps55
  go_wp2_with (first | ((with_reducible refine gate_dst (N:=2) rfl ?_); refine box_event ?hg (N:=2) ?hd (cs := #[.int .i64 0,.int .i64 0,.int .i64 0,.int .i64 0,.int .i64 0,.int .i64 0]) (t:=26) ?hr ?_; (case hd => rfl); (case hg => rfl); (case hr => first | (go_simp; done) | (go_simp; rfl)); intro gb436 hg w31 hbox hb; have n0_ := Aside0.mk (below_step bA hb); have n1_ := Aside0.mk (hbox); have n2_ := Aside0.mk ((gw hg : w.heap.size ≤ gb436)); have n3_ := Aside0.mk ((gw hg : w.heap.size ≤ gb436)); clear HB; have HB := n0_; have BK436 := n1_; have GW436 := n2_; have GE436 := n3_; clear n0_ n1_ n2_ n3_; clear hb hbox hg) | ((with_reducible refine gate_callee (f:=49) rfl ?_); refine goesL_ (some 9) rfl rfl Tryz.func49 (by kernel_rfl) rfl #[.string a0,.string (⟨#[44]⟩ : ByteArray),.int .i64 6] rfl mA ?_; (with_reducible refine (impl_numbers.calls k a0 (⟨#[44]⟩ : ByteArray) 6 t437 false _ ?side1 A2.out).mono ?_); (case side1 => exact HV.out.below bA); rintro e w32 ⟨v439,rfl,ho0,hb⟩; refine ⟨_,rfl,?_⟩; have n0_ := Aside0.mk (Kd.R_lower ho0 (below_size bA)); have n1_ := Aside0.mk (blk_below (g:=gb436) (o:=.cells #[.int .i64 0,.int .i64 0,.int .i64 0,.int .i64 0,.int .i64 0,.int .i64 0] 26 (0,0)) (kA BK436.out) hb); have n2_ := Aside0.mk (below_step bA hb); clear BK436; clear HB; have HO440 := n0_; have BK436 := n1_; have HB := n2_; clear n0_ n1_ n2_; (try clear hb); (try clear hb2); (try clear hk); (try clear hi); (try clear ho0); have hcz33_0 : w32.cell? ⟨gb436,0,none⟩ = some (.int .i64 0) := (blk_cell BK436.out 0).trans rfl; have hcz33_1 : w32.cell? ⟨gb436,1,none⟩ = some (.int .i64 0) := (blk_cell BK436.out 1).trans rfl; have hcz33_2 : w32.cell? ⟨gb436,2,none⟩ = some (.int .i64 0) := (blk_cell BK436.out 2).trans rfl; have hcz33_3 : w32.cell? ⟨gb436,3,none⟩ = some (.int .i64 0) := (blk_cell BK436.out 3).trans rfl; have hcz33_4 : w32.cell? ⟨gb436,4,none⟩ = some (.int .i64 0) := (blk_cell BK436.out 4).trans rfl; have hcz33_5 : w32.cell? ⟨gb436,5,none⟩ = some (.int .i64 0) := (blk_cell BK436.out 5).trans rfl; have hfz33_0 := blk_frozen BK436.out 0; have hfz33_1 := blk_frozen BK436.out 1; have hfz33_2 := blk_frozen BK436.out 2; have hfz33_3 := blk_frozen BK436.out 3; have hfz33_4 := blk_frozen BK436.out 4; have hfz33_5 := blk_frozen BK436.out 5))
  refine bodyPost_ret (results_ct rfl _ _ gb436 26 #[.int .i64 0,.int .i64 0,.int .i64 0,.int .i64 0,.int .i64 0,.int .i64 0] (0,0) _ rfl (by (with_reducible repeat (first | refine blk_drewN ?_ _ | refine blk_drew ?_ | refine blk_alloc ?_ _)); apply blkp6; (with_reducible repeat (first | refine blk_drewN ?_ _ | refine blk_drew ?_ | refine blk_alloc ?_ _)); exact BK436.out) Tryz.underlying26 rfl (by kernel_rfl)) rfl ?_
  exact ⟨by first | rfl | (simp [errW_none,errW_some] <;> rfl) | (simp [*,errW_none,errW_some] <;> rfl),bA⟩

end Go.Proofs.YtleifhnoaaphmaaGreatDoor.XFnExactWindowOf
