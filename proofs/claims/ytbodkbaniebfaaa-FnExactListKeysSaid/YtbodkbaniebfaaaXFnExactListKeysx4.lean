-- Printed by this session's own program wip/tools/xprint.py, which widens the kit's print. Not trusted: Lean checks it.
import Derived.Test.YtbodkbaniebfaaaXFnExactListKeysx0
import Derived.Test.YtbodkbaniebfaaaXFnExactListKeysx2
import Derived.Test.YtbodkbaniebfaaaXFnExactListKeysx3
namespace Go.Proofs.Ytbodkbaniebfaaa.XFnExactListKeys
open List (setIfInBounds_toArray set_cons_zero set_cons_succ)
open Go.RowKit Go.Proofs.YtbodkbaniebfaaaW.PrintWords Go.Proofs.YtbodkbaniebfaaaW.PrintLast Go.Proofs.YtbodkbaniebfaaaW.PrintMore
attribute [local go_sem] max2_int min2_int max_two min_two max_three min_three max_four min_four   -- for this text's walks alone
set_option linter.unusedVariables false
set_option linter.unusedSimpArgs false

/-! ### spec_l01Prefix: function 63 -/
def spec_l01Prefix.f (a0 : ByteArray) (a1 : ByteArray) : Option (Bool) := if (a0.size : Int) ≥ (a1.size : Int) then (if 0 ≤ (a1.size : Int) then (if (a1.size : Int) ≤ (a0.size : Int) then (some ((a0.extract 0 ((a1.size : Int) : Int).toNat).toList == a1.toList)) else (none)) else (none)) else (some false)
set_option maxHeartbeats 8000000 in
set_option maxRecDepth 100000 in
theorem spec_l01Prefix.calls (a0 : ByteArray) (a1 : ByteArray) (r : Bool) (w : World) (h : spec_l01Prefix.f a0 a1 = some r) :
  Calls Try.prog 63 #[.string a0,.string a1] w fun e w' => e = .returned (.bool r) ∧ Drawn0 w w' := by
 have H : (if (a0.size : Int) ≥ (a1.size : Int) then (if 0 ≤ (a1.size : Int) then (if (a1.size : Int) ≤ (a0.size : Int) then (some ((a0.extract 0 ((a1.size : Int) : Int).toNat).toList == a1.toList)) else (none)) else (none)) else (some false)) = some r := h
 clear h
 by_cases c3 : (a0.size : Int) ≥ (a1.size : Int)
 ·rw [if_pos c3] at H
  have c3b0 : decide ((a1.size : Int) ≤ (a0.size : Int)) = true := decide_eq_true c3
  have c3b1 : decide (a1.size ≤ a0.size) = true := decide_eq_true (Int.ofNat_le.mp c3)
  clear c3
  by_cases c4 : 0 ≤ (a1.size : Int)
  ·rw [if_pos c4] at H
   have c4b0 := eq_true c4
   have c4b1 : decide (0 ≤ (a1.size : Int)) = true := decide_eq_true c4
   clear c4
   by_cases c5 : (a1.size : Int) ≤ (a0.size : Int)
   ·rw [if_pos c5] at H
    have c5b0 := eq_true c5
    have c5b1 : decide ((a1.size : Int) ≤ (a0.size : Int)) = true := decide_eq_true c5
    clear c5
    obtain rfl := Option.some.inj H
    go_enter Try.func63,Try.ntmps63
    go_wp2
    go_ret
    exact ⟨by first | rfl | (simp; done) | (simp [*]; done),by repeat (first | exact Drawn0.refl _ | apply Drawn0.step)⟩
   ·rw [if_neg c5] at H
    exact absurd H (by simp)
  ·rw [if_neg c4] at H
   exact absurd H (by simp)
 ·rw [if_neg c3] at H
  have c3b0 : decide ((a1.size : Int) ≤ (a0.size : Int)) = false := decide_eq_false c3
  have c3b1 : decide (a1.size ≤ a0.size) = false := decide_eq_false (fun h => c3 (Int.ofNat_le.mpr h))
  clear c3
  obtain rfl := Option.some.inj H
  go_enter Try.func63,Try.ntmps63
  go_wp2
  go_ret
  exact ⟨by first | rfl | (simp; done) | (simp [*]; done),by repeat (first | exact Drawn0.refl _ | apply Drawn0.step)⟩

/-! ### spec_l01List: function 39 -/
mutual
def spec_l01List.l0 : Nat → ByteArray → ByteArray → Int → List ByteArray → Int → List (S71) → Int → Option (List ByteArray)
 | 0,_,_,_,_,_,_,_ => none
 | k + 1,x1,x2,x3,x9,x10,x153000,x153001 => if x10 < (x153000.length : Int) then (spec_l01List.j1 k x1 x2 x3 x9 x10 (decide ((x9.length : Int) < x3)) x153000 x153001) else (spec_l01List.j1 k x1 x2 x3 x9 x10 false x153000 x153001)
def spec_l01List.j1 : Nat → ByteArray → ByteArray → Int → List ByteArray → Int → Bool → List (S71) → Int → Option (List ByteArray)
 | 0,_,_,_,_,_,_,_,_ => none
 | k + 1,x1,x2,x3,x9,x10,x22,x153000,x153001 => if x22 = true then (if 0 ≤ x10 then (if x10 < (x153000.length : Int) then ((spec_l01Prefix.f ((rd_T71 x153000 x10).f0) x1).bind fun t157 => (if t157 = true then (if (!Op.bytesLess (((rd_T71 x153000 x10).f0).toList) x2.toList && !(((rd_T71 x153000 x10).f0).toList) == x2.toList) = true then (if x9.length < 8796093022208 then (spec_l01List.l0 k x1 x2 x3 (x9 ++ [(rd_T71 x153000 x10).f0]) (wrap64 (x10 + 1)) x153000 x153001) else (none)) else (spec_l01List.l0 k x1 x2 x3 x9 (wrap64 (x10 + 1)) x153000 x153001)) else (spec_l01List.l0 k x1 x2 x3 x9 (wrap64 (x10 + 1)) x153000 x153001))) else (none)) else (none)) else (some x9)
end
def spec_l01List.f (k : Nat) (l0_0 : List (S71)) (a0_1 : Int) (a1 : ByteArray) (a2 : ByteArray) (a3 : Int) : Option (List ByteArray) := spec_l01List.l0 k a1 a2 a3 (([] : List ByteArray)) 0 l0_0 a0_1
theorem spec_l01List.mono_l : ∀ k,(∀ y0 y1 y2 y3 y4 y5 y6,LeO (spec_l01List.l0 k y0 y1 y2 y3 y4 y5 y6) (spec_l01List.l0 (k + 1) y0 y1 y2 y3 y4 y5 y6)) ∧ (∀ y0 y1 y2 y3 y4 y5 y6 y7,LeO (spec_l01List.j1 k y0 y1 y2 y3 y4 y5 y6 y7) (spec_l01List.j1 (k + 1) y0 y1 y2 y3 y4 y5 y6 y7))
 | 0 => ⟨fun _ _ _ _ _ _ _ r h => by simp [spec_l01List.l0] at h,fun _ _ _ _ _ _ _ _ r h => by simp [spec_l01List.j1] at h⟩
 | k + 1 => by
  obtain ⟨ih0,ih1⟩ := spec_l01List.mono_l k
  refine ⟨?_,?_⟩
  ·intro y0 y1 y2 y3 y4 y5 y6
   unfold spec_l01List.l0
   repeat' first
   | (with_reducible exact ih0 _ _ _ _ _ _ _)
   | (with_reducible exact ih1 _ _ _ _ _ _ _ _)
   | (with_reducible exact LeO.refl _)
   | (with_reducible exact LeO.none _)
   | (with_reducible refine LeO.ite ?_ ?_)
   | (with_reducible refine LeO.bind ?_ (fun _ => ?_))
   | exact ih0 _ _ _ _ _ _ _
   | exact ih1 _ _ _ _ _ _ _ _
   | exact LeO.none _
   | refine LeO.ite ?_ ?_
   | refine LeO.bind ?_ (fun _ => ?_)
  ·intro y0 y1 y2 y3 y4 y5 y6 y7
   unfold spec_l01List.j1
   repeat' first
   | (with_reducible exact ih0 _ _ _ _ _ _ _)
   | (with_reducible exact ih1 _ _ _ _ _ _ _ _)
   | (with_reducible exact LeO.refl _)
   | (with_reducible exact LeO.none _)
   | (with_reducible refine LeO.ite ?_ ?_)
   | (with_reducible refine LeO.bind ?_ (fun _ => ?_))
   | exact ih0 _ _ _ _ _ _ _
   | exact ih1 _ _ _ _ _ _ _ _
   | exact LeO.none _
   | refine LeO.ite ?_ ?_
   | refine LeO.bind ?_ (fun _ => ?_)
theorem spec_l01List.mono : ∀ a0 a1 a2 a3 a4 k,LeO (spec_l01List.f k a0 a1 a2 a3 a4) (spec_l01List.f (k + 1) a0 a1 a2 a3 a4) := by
 intro a0 a1 a2 a3 a4 k
 obtain ⟨ih0,ih1⟩ := spec_l01List.mono_l k
 unfold spec_l01List.f
 repeat' first
   | (with_reducible exact ih0 _ _ _ _ _ _ _)
   | (with_reducible exact ih1 _ _ _ _ _ _ _ _)
   | (with_reducible exact LeO.refl _)
   | (with_reducible exact LeO.none _)
   | (with_reducible refine LeO.ite ?_ ?_)
   | (with_reducible refine LeO.bind ?_ (fun _ => ?_))
   | exact ih0 _ _ _ _ _ _ _
   | exact ih1 _ _ _ _ _ _ _ _
   | exact LeO.none _
   | refine LeO.ite ?_ ?_
   | refine LeO.bind ?_ (fun _ => ?_)
set_option maxHeartbeats 8000000 in
set_option maxRecDepth 100000 in
theorem spec_l01List.calls (k : Nat) (A0_0 : Option Addr) (c0_0 : Nat) (l0_0 : List (S71)) (a0_1 : Int) (a1 : ByteArray) (a2 : ByteArray) (a3 : Int) (r : List ByteArray) (w : World) (hr0_0 : Kd.C k71 w A0_0 l0_0.length l0_0) (hc0_0 : l0_0.length ≤ c0_0) (h : spec_l01List.f k l0_0 a0_1 a1 a2 a3 = some r) :
  Calls Try.prog 39 #[.agg #[.slice A0_0 l0_0.length c0_0,.int .i64 a0_1],.string a1,.string a2,.int .i64 a3] w fun e w' => ∃ v0_ : Value,e = .returned (v0_) ∧ Kd.R Kd.string 9 w' w.heap.size (fun _ => True) v0_ r ∧ Below w.heap.size w w' := by
 have hu28 := Try.underlying28
 have HR0_0 := Aside0.mk hr0_0
 have HC0_0 := Aside0.mk hc0_0
 clear hr0_0 hc0_0
 have HB := Aside0.mk (Below.refl w.heap.size w)
 have H : (spec_l01List.l0 k a1 a2 a3 (([] : List ByteArray)) 0 l0_0 a0_1) = some r := h
 clear h
 obtain ⟨y153,hy153⟩ : ∃ y_ : List ByteArray,y_ = (([] : List ByteArray)) := ⟨_,rfl⟩
 replace H : (spec_l01List.l0 k a1 a2 a3 y153 0 l0_0 a0_1) = some r := by first | (rw [hy153]; with_reducible exact H) | (have H2_ := (Option.bind_some _ _).symm.trans H; rw [hy153]; with_reducible exact H2_) | (have H2_ := (Option.bind_some _ _).symm.trans H; with_reducible exact H2_) | with_reducible exact H | (rw [hy153]; exact H) | exact H
 have Ny153 := Aside0.mk hy153
 clear hy153
 have H' := Aside0.mk H
 clear H
 go_enter Try.func39,Try.ntmps39
 go_wp2_with (first | ((with_reducible refine gate_dst (N:=4) rfl ?_); (try (refine gate_guard (by rfl) ?_; dsimp only)); refine box_event ?hg (N:=4) ?hd (cs := #[.slice A0_0 l0_0.length c0_0,.int .i64 a0_1]) (t:=28) ?hr ?_; (case hd => rfl); (case hg => rfl); (case hr => first | (go_simp; done) | (go_simp; rfl)); intro gb152 hg w5 hbox hb; have n0_ := Aside0.mk (below_step bA hb); have n1_ := Aside0.mk (hbox); have n2_ := Aside0.mk ((by rw [hg]; exact (below_size bA) : w.heap.size ≤ gb152)); have n3_ := Aside0.mk ((by rw [hg]; exact (below_size bA) : w.heap.size ≤ gb152)); clear HB; have HB := n0_; have BK152 := n1_; have GW152 := n2_; have GE152 := n3_; clear n0_ n1_ n2_ n3_; clear hb hbox hg) | ((with_reducible refine gate_dst (N:=11) rfl ?_); (try (refine gate_guard (by rfl) ?_; dsimp only)); refine Kd.R_lit Kd.string _ 9 ?hg (N:=11) ?hd (xs := ([] : List ByteArray)) (inner := []) (ok := fun _ => True) (okp := fun _ => True) ?hr ?hp (fun _ hk => hk) trivial (Below.refl _ _) (Nat.le_refl _) (by simp) ?_; (case hd => rfl); (case hg => rfl); (case hr => first | (go_simp; done) | (go_simp; rfl)); (case hp => exact (Reps.none _ _)); intro v154 w6 ho7 hb hg_ hnew_; clear hg_ hnew_; (first | rw [← Ny153.out] at ho7 | (simp only [Int.reduceToNat] at ho7; rw [← Ny153.out] at ho7)); have n0_ := Aside0.mk (Kd.R_lower ho7 (below_size bA)); have n1_ := Aside0.mk (blk_below (g:=gb152) (o:=.cells #[.slice A0_0 l0_0.length c0_0,.int .i64 a0_1] 28 (0,0)) (kA BK152.out) hb); have n2_ := Aside0.mk (below_step bA hb); clear BK152; clear HB; have HO155 := n0_; have BK152 := n1_; have HB := n2_; clear n0_ n1_ n2_; clear hb ho7))
 go_loopg [9,10] k (fun kq v9 v10 w' => ∃ (x9_1 : List ByteArray) (x10_1 : Int),v10 = .int .i64 x10_1 ∧ Aside0 (spec_l01List.l0 kq a1 a2 a3 x9_1 x10_1 l0_0 a0_1 = some r) ∧ Aside0 (kq ≤ k) ∧ Aside0 (Kd.R Kd.string 9 w' w.heap.size (fun _ => True) v9 x9_1) ∧ Aside0 (w'.heap[gb152]? = some (.cells #[(.slice A0_0 l0_0.length c0_0),.int .i64 a0_1] 28 (0,0))) ∧ Aside0 (Below w.heap.size w w'))
 case atStart => exact ⟨(y153),(0),(by first | rfl | (simp; done) | (simp [*]; done)),H',⟨Nat.le_refl _⟩,⟨rA HO155.out⟩,⟨kA BK152.out⟩,⟨bA⟩⟩
 case round =>
  clear H'
  try clear p2
  try clear c3
  obtain ⟨x9_1,x10_1,rfl,HA,HK1,HO_9,BK152,HB⟩ := hrel
  cases gk with
  | zero => exact absurd HA.out (by simp [spec_l01List.l0])
  | succ k1 =>
   have H := HA.out
   clear HA
   simp only [spec_l01List.l0] at H
   have HC8 := Aside0.mk H
   clear H
   go_upto_region 3 with (fail)
   go_cut [22] (fun v22 wc => ∃ (kq : Nat) (x22_7 : Bool),v22 = .bool x22_7 ∧ Aside0 (spec_l01List.j1 kq a1 a2 a3 x9_1 x10_1 x22_7 l0_0 a0_1 = some r) ∧ Aside0 (kq ≤ k1) ∧ Aside0 (Kd.R Kd.string 9 wc w.heap.size (fun _ => True) u9 x9_1) ∧ Aside0 (wc.heap[gb152]? = some (.cells #[(.slice A0_0 l0_0.length c0_0),.int .i64 a0_1] 28 (0,0))) ∧ Aside0 (Below w.heap.size w wc))
   case first =>
    have H := HC8.out
    clear HC8
    by_cases c9 : x10_1 < (l0_0.length : Int)
    ·rw [if_pos c9] at H
     have c9b0 : decide (x10_1 < (l0_0.length : Int)) = true := decide_eq_true c9
     clear c9
     (first | rw [c9b0] | (simp only [i64_w,i32_w]; rw [c9b0]) | skip)
     have H' := Aside0.mk H
     clear H
     have hcz10_0 : wr.cell? ⟨gb152,0,none⟩ = some (.slice A0_0 l0_0.length c0_0) := (blk_cell BK152.out 0).trans rfl
     have hcz10_1 : wr.cell? ⟨gb152,1,none⟩ = some (.int .i64 a0_1) := (blk_cell BK152.out 1).trans rfl
     have hfz10_0 := blk_frozen BK152.out 0
     have hfz10_1 := blk_frozen BK152.out 1
     obtain ⟨Ao11,co11,eo11⟩ := Kd.R_slice HO_9.out
     subst eo11
     go_wp2
     go_meet
     case rel => exact ⟨_,(decide ((x9_1.length : Int) < a3)),(by first | rfl | (simp; done) | (simp [*]; done)),H',⟨by have := HK1.out; first | omega | exact Nat.le_refl _⟩,⟨rA HO_9.out⟩,⟨kA BK152.out⟩,⟨bA⟩⟩
    ·rw [if_neg c9] at H
     have c9b0 : decide (x10_1 < (l0_0.length : Int)) = false := decide_eq_false c9
     clear c9
     (first | rw [c9b0] | (simp only [i64_w,i32_w]; rw [c9b0]) | skip)
     have H' := Aside0.mk H
     clear H
     have hcz12_0 : wr.cell? ⟨gb152,0,none⟩ = some (.slice A0_0 l0_0.length c0_0) := (blk_cell BK152.out 0).trans rfl
     have hcz12_1 : wr.cell? ⟨gb152,1,none⟩ = some (.int .i64 a0_1) := (blk_cell BK152.out 1).trans rfl
     have hfz12_0 := blk_frozen BK152.out 0
     have hfz12_1 := blk_frozen BK152.out 1
     go_wp2
     go_meet
     case rel => exact ⟨_,(false),(by first | rfl | (simp; done) | (simp [*]; done)),H',⟨by have := HK1.out; first | omega | exact Nat.le_refl _⟩,⟨rA HO_9.out⟩,⟨kA BK152.out⟩,⟨bA⟩⟩
   case rest =>
    clear HC8
    try clear p2
    try clear c3
    try clear c9
    try clear c9b0
    try clear hcz10_0
    try clear hcz10_1
    try clear hcz12_0
    try clear hcz12_1
    try clear hfz10_0
    try clear hfz10_1
    try clear hfz12_0
    try clear hfz12_1
    try clear p2
    obtain ⟨kq,x22_7,rfl,HA,HJ7,HO_9,BK152,HB⟩ := hcut
    cases kq with
    | zero => exact absurd HA.out (by simp [spec_l01List.j1])
    | succ kj7 =>
     have H := HA.out
     clear HA
     simp only [spec_l01List.j1] at H
     by_cases c13 : x22_7 = true
     ·subst c13
      rw [if_pos rfl] at H
      by_cases c14 : 0 ≤ x10_1
      ·rw [if_pos c14] at H
       have c14b0 : decide (0 ≤ x10_1) = true := decide_eq_true c14
       clear c14
       by_cases c15 : x10_1 < (l0_0.length : Int)
       ·rw [if_pos c15] at H
        have c15b0 : decide (x10_1 < (l0_0.length : Int)) = true := decide_eq_true c15
        clear c15
        replace H := Option.bind_eq_some_iff.mp H
        obtain ⟨t157,A160,H⟩ := H
        try dsimp only at H
        have A16 := Aside0.mk A160
        clear A160
        by_cases c17 : t157 = true
        ·subst c17
         rw [if_pos rfl] at H
         by_cases c18 : (!Op.bytesLess (((rd_T71 l0_0 x10_1).f0).toList) a2.toList && !(((rd_T71 l0_0 x10_1).f0).toList) == a2.toList) = true
         ·rw [if_pos c18] at H
          have c18b0 : (!Op.bytesLess (((rd_T71 l0_0 x10_1).f0).toList) a2.toList && !(((rd_T71 l0_0 x10_1).f0).toList) == a2.toList) = true := c18
          (try (have c18b1 : decide (!Op.bytesLess (((rd_T71 l0_0 x10_1).f0).toList) a2.toList && !(((rd_T71 l0_0 x10_1).f0).toList) = a2.toList) = true := by simpa using c18))
          (try (have c18b2 : (!Op.bytesLess (((rd_T71 l0_0 x10_1).f0).toList) a2.toList && !(((rd_T71 l0_0 x10_1).f0).toList) == a2.toList) = true := by simpa using c18))
          clear c18
          by_cases c19 : x9_1.length < 8796093022208
          ·rw [if_pos c19] at H
           have LMc19 := Aside0.mk c19
           clear c19
           obtain ⟨y160,hy160⟩ : ∃ y_ : List ByteArray,y_ = (x9_1 ++ [(rd_T71 l0_0 x10_1).f0]) := ⟨_,rfl⟩
           replace H : (spec_l01List.l0 kj7 a1 a2 a3 y160 (wrap64 (x10_1 + 1)) l0_0 a0_1) = some r := by first | (rw [hy160]; with_reducible exact H) | (have H2_ := (Option.bind_some _ _).symm.trans H; rw [hy160]; with_reducible exact H2_) | (have H2_ := (Option.bind_some _ _).symm.trans H; with_reducible exact H2_) | with_reducible exact H | (rw [hy160]; exact H) | exact H
           have Ny160 := Aside0.mk hy160
           clear hy160
           have H' := Aside0.mk H
           clear H
           have hcz20_0 : wc.cell? ⟨gb152,0,none⟩ = some (.slice A0_0 l0_0.length c0_0) := (blk_cell BK152.out 0).trans rfl
           have hcz20_1 : wc.cell? ⟨gb152,1,none⟩ = some (.int .i64 a0_1) := (blk_cell BK152.out 1).trans rfl
           have hfz20_0 := blk_frozen BK152.out 0
           have hfz20_1 := blk_frozen BK152.out 1
           have p156 : 0 ≤ (x10_1 : Int) := of_decide_eq_true (by first | (with_reducible assumption) | assumption)
           have q156 : x10_1 < (l0_0.length : Int) := of_decide_eq_true (by first | (with_reducible assumption) | assumption)
           obtain ⟨ad156,e156,hx156_0,hx156_1,hx156_2⟩ := at_T71 HR0_0.out x10_1 p156 q156
           cases e156
           replace hx156_0 := (HB.out.cell (World.block_lt_of_cell? w _ hx156_0)).trans hx156_0
           replace hx156_1 := (HB.out.cell (World.block_lt_of_cell? w _ hx156_1)).trans hx156_1
           replace hx156_2 := (HB.out.cell (World.block_lt_of_cell? w _ hx156_2)).trans hx156_2
           replace p156 := eq_true p156
           replace q156 := eq_true q156
           go_wp2_with (first | ((with_reducible refine gate_callee (f:=63) rfl ?_); refine goesL_ (some 32) rfl rfl Try.func63 (by kernel_rfl) rfl #[.string ((rd_T71 l0_0 x10_1).f0),.string a1] rfl mA ?_; (with_reducible refine (spec_l01Prefix.calls ((rd_T71 l0_0 x10_1).f0) a1 true _ A16.out).mono ?_); rintro e w' ⟨rfl,⟨nd,rfl⟩⟩; refine ⟨_,rfl,?_⟩; have p158 : 0 ≤ (x10_1 : Int) := of_decide_eq_true (by first | (with_reducible assumption) | assumption); have q158 : x10_1 < (l0_0.length : Int) := of_decide_eq_true (by first | (with_reducible assumption) | assumption); obtain ⟨ad158,e158,hx158_0,hx158_1,hx158_2⟩ := at_T71 HR0_0.out x10_1 p158 q158; obtain rfl : ad156 = ad158 := (by injection e158); replace hx158_0 := (HB.out.cell (World.block_lt_of_cell? w _ hx158_0)).trans hx158_0; replace hx158_1 := (HB.out.cell (World.block_lt_of_cell? w _ hx158_1)).trans hx158_1; replace hx158_2 := (HB.out.cell (World.block_lt_of_cell? w _ hx158_2)).trans hx158_2; replace p158 := eq_true p158; replace q158 := eq_true q158; have p159 : 0 ≤ (x10_1 : Int) := of_decide_eq_true (by first | (with_reducible assumption) | assumption); have q159 : x10_1 < (l0_0.length : Int) := of_decide_eq_true (by first | (with_reducible assumption) | assumption); obtain ⟨ad159,e159,hx159_0,hx159_1,hx159_2⟩ := at_T71 HR0_0.out x10_1 p159 q159; obtain rfl : ad156 = ad159 := (by injection e159); replace hx159_0 := (HB.out.cell (World.block_lt_of_cell? w _ hx159_0)).trans hx159_0; replace hx159_1 := (HB.out.cell (World.block_lt_of_cell? w _ hx159_1)).trans hx159_1; replace hx159_2 := (HB.out.cell (World.block_lt_of_cell? w _ hx159_2)).trans hx159_2; replace p159 := eq_true p159; replace q159 := eq_true q159) | ((with_reducible refine gate_builtin (b:=.append) (xs := #[.tmp 43,.tmp 50]) rfl ?_); (try (refine gate_guard (by rfl) ?_; dsimp only)); at_builtin; refine Kd.R_append Kd.string (w0 := w) w.heap.size rfl (.tmp 43) (.tmp 50) 35 9 (.string ⟨#[]⟩) 16 rfl Try.underlying35 info9 rfl (by decide) (by omega) u9 x9_1 ((rd_T71 l0_0 x10_1).f0) [.string ((rd_T71 l0_0 x10_1).f0)] (fun _ => True) (fun _ => False) rfl rfl ?aP (fun _ hk => hk.elim) ?aF ?aO ?aB ?aS ?aL ?_; (case aP => exact rfl); (case aB => exact bA); (case aF => exact (fun _ _ => trivial)); (case aO => exact (rA HO_9.out)); (case aS => exact (below_size bA)); (case aL => have := LMc19.out; omega); intro v161 w21 ho hb hg hat; rw [← Ny160.out] at ho; have n0_ := Aside0.mk (blk_grown (g:=gb152) (o:=.cells #[.slice (some ad156) l0_0.length c0_0,.int .i64 a0_1] 28 (0,0)) (kA BK152.out) hg (Kd.R_ne HO_9.out BK152.out (by decide))); have n1_ := Aside0.mk (hb); have n2_ := Aside0.mk (ho); clear BK152; clear HB; clear HO_9; have BK152 := n0_; have HB := n1_; have HO162 := n2_; clear n0_ n1_ n2_; clear ho hb hg hat))
           go_roundg kj7
           case measure => have := HK1.out; have := HJ7.out; omega
           case rel => exact ⟨(y160),(wrap64 (x10_1 + 1)),(by first | rfl | (simp; done) | (simp [*]; done)),H',⟨by have := HK1.out; have := HJ7.out; omega⟩,⟨rA HO162.out⟩,⟨kA BK152.out⟩,⟨bA⟩⟩
          ·rw [if_neg c19] at H
           exact absurd H (by simp)
         ·rw [if_neg c18] at H
          have c18b0 : (!Op.bytesLess (((rd_T71 l0_0 x10_1).f0).toList) a2.toList && !(((rd_T71 l0_0 x10_1).f0).toList) == a2.toList) = false := by simpa using c18
          (try (have c18b1 : decide (!Op.bytesLess (((rd_T71 l0_0 x10_1).f0).toList) a2.toList && !(((rd_T71 l0_0 x10_1).f0).toList) = a2.toList) = false := by simpa using c18))
          (try (have c18b2 : (!Op.bytesLess (((rd_T71 l0_0 x10_1).f0).toList) a2.toList && !(((rd_T71 l0_0 x10_1).f0).toList) == a2.toList) = false := by simpa using c18))
          (try (have c18b3 : ¬ (!Op.bytesLess (((rd_T71 l0_0 x10_1).f0).toList) a2.toList && !(((rd_T71 l0_0 x10_1).f0).toList) = a2.toList) := by simpa using c18))
          clear c18
          have H' := Aside0.mk H
          clear H
          have hcz22_0 : wc.cell? ⟨gb152,0,none⟩ = some (.slice A0_0 l0_0.length c0_0) := (blk_cell BK152.out 0).trans rfl
          have hcz22_1 : wc.cell? ⟨gb152,1,none⟩ = some (.int .i64 a0_1) := (blk_cell BK152.out 1).trans rfl
          have hfz22_0 := blk_frozen BK152.out 0
          have hfz22_1 := blk_frozen BK152.out 1
          have p156 : 0 ≤ (x10_1 : Int) := of_decide_eq_true (by first | (with_reducible assumption) | assumption)
          have q156 : x10_1 < (l0_0.length : Int) := of_decide_eq_true (by first | (with_reducible assumption) | assumption)
          obtain ⟨ad156,e156,hx156_0,hx156_1,hx156_2⟩ := at_T71 HR0_0.out x10_1 p156 q156
          cases e156
          replace hx156_0 := (HB.out.cell (World.block_lt_of_cell? w _ hx156_0)).trans hx156_0
          replace hx156_1 := (HB.out.cell (World.block_lt_of_cell? w _ hx156_1)).trans hx156_1
          replace hx156_2 := (HB.out.cell (World.block_lt_of_cell? w _ hx156_2)).trans hx156_2
          replace p156 := eq_true p156
          replace q156 := eq_true q156
          go_wp2_with (first | ((with_reducible refine gate_callee (f:=63) rfl ?_); refine goesL_ (some 32) rfl rfl Try.func63 (by kernel_rfl) rfl #[.string ((rd_T71 l0_0 x10_1).f0),.string a1] rfl mA ?_; (with_reducible refine (spec_l01Prefix.calls ((rd_T71 l0_0 x10_1).f0) a1 true _ A16.out).mono ?_); rintro e w' ⟨rfl,⟨nd,rfl⟩⟩; refine ⟨_,rfl,?_⟩; have p158 : 0 ≤ (x10_1 : Int) := of_decide_eq_true (by first | (with_reducible assumption) | assumption); have q158 : x10_1 < (l0_0.length : Int) := of_decide_eq_true (by first | (with_reducible assumption) | assumption); obtain ⟨ad158,e158,hx158_0,hx158_1,hx158_2⟩ := at_T71 HR0_0.out x10_1 p158 q158; obtain rfl : ad156 = ad158 := (by injection e158); replace hx158_0 := (HB.out.cell (World.block_lt_of_cell? w _ hx158_0)).trans hx158_0; replace hx158_1 := (HB.out.cell (World.block_lt_of_cell? w _ hx158_1)).trans hx158_1; replace hx158_2 := (HB.out.cell (World.block_lt_of_cell? w _ hx158_2)).trans hx158_2; replace p158 := eq_true p158; replace q158 := eq_true q158))
          go_roundg kj7
          case measure => have := HK1.out; have := HJ7.out; omega
          case rel => exact ⟨(x9_1),(wrap64 (x10_1 + 1)),(by first | rfl | (simp; done) | (simp [*]; done)),H',⟨by have := HK1.out; have := HJ7.out; omega⟩,⟨rA HO_9.out⟩,⟨kA BK152.out⟩,⟨bA⟩⟩
        ·replace c17 := Bool.eq_false_iff.mpr c17
         subst c17
         rw [if_neg (show ¬ (false = true) by decide)] at H
         have H' := Aside0.mk H
         clear H
         have hcz23_0 : wc.cell? ⟨gb152,0,none⟩ = some (.slice A0_0 l0_0.length c0_0) := (blk_cell BK152.out 0).trans rfl
         have hcz23_1 : wc.cell? ⟨gb152,1,none⟩ = some (.int .i64 a0_1) := (blk_cell BK152.out 1).trans rfl
         have hfz23_0 := blk_frozen BK152.out 0
         have hfz23_1 := blk_frozen BK152.out 1
         have p156 : 0 ≤ (x10_1 : Int) := of_decide_eq_true (by first | (with_reducible assumption) | assumption)
         have q156 : x10_1 < (l0_0.length : Int) := of_decide_eq_true (by first | (with_reducible assumption) | assumption)
         obtain ⟨ad156,e156,hx156_0,hx156_1,hx156_2⟩ := at_T71 HR0_0.out x10_1 p156 q156
         cases e156
         replace hx156_0 := (HB.out.cell (World.block_lt_of_cell? w _ hx156_0)).trans hx156_0
         replace hx156_1 := (HB.out.cell (World.block_lt_of_cell? w _ hx156_1)).trans hx156_1
         replace hx156_2 := (HB.out.cell (World.block_lt_of_cell? w _ hx156_2)).trans hx156_2
         replace p156 := eq_true p156
         replace q156 := eq_true q156
         go_wp2_with (first | ((with_reducible refine gate_callee (f:=63) rfl ?_); refine goesL_ (some 32) rfl rfl Try.func63 (by kernel_rfl) rfl #[.string ((rd_T71 l0_0 x10_1).f0),.string a1] rfl mA ?_; (with_reducible refine (spec_l01Prefix.calls ((rd_T71 l0_0 x10_1).f0) a1 false _ A16.out).mono ?_); rintro e w' ⟨rfl,⟨nd,rfl⟩⟩; refine ⟨_,rfl,?_⟩))
         go_roundg kj7
         case measure => have := HK1.out; have := HJ7.out; omega
         case rel => exact ⟨(x9_1),(wrap64 (x10_1 + 1)),(by first | rfl | (simp; done) | (simp [*]; done)),H',⟨by have := HK1.out; have := HJ7.out; omega⟩,⟨rA HO_9.out⟩,⟨kA BK152.out⟩,⟨bA⟩⟩
       ·rw [if_neg c15] at H
        exact absurd H (by simp)
      ·rw [if_neg c14] at H
       exact absurd H (by simp)
     ·replace c13 := Bool.eq_false_iff.mpr c13
      subst c13
      rw [if_neg (show ¬ (false = true) by decide)] at H
      obtain rfl := Option.some.inj H
      go_wp2
      go_ret
      exact ⟨_,by first | rfl | (simp only [i64_w,i32_w] <;> rfl) | (simp [errW_none,errW_some] <;> rfl) | (simp [*,errW_none,errW_some] <;> rfl),rA HO_9.out,bA⟩

/-! ### spec_ListKeys: function 14 -/
def spec_ListKeys.j0 : Nat → ByteArray → ByteArray → Int → Bool → List (S71) → Int → Option (List ByteArray × Int)
 | 0,_,_,_,_,_,_ => none
 | k + 1,x1,x2,x3,x17,x164000,x164001 => if x17 = true then (some ((([] : List ByteArray)),2)) else ((spec_StoreOK.f k x164000 x164001).bind fun t167 => (if t167 = true then ((spec_l01In.f x3 0 300).bind fun t171 => (if t171 = true then ((spec_l01List.f k x164000 x164001 x1 x2 x3).bind fun t172 => (some (t172,0))) else (some ((([] : List ByteArray)),4)))) else (some ((([] : List ByteArray)),1))))
def spec_ListKeys.f (k : Nat) (l0_0 : List (S71)) (a0_1 : Int) (a1 : ByteArray) (a2 : ByteArray) (a3 : Int) : Option (List ByteArray × Int) := if (a1.size : Int) > 65536 then (spec_ListKeys.j0 k a1 a2 a3 true l0_0 a0_1) else (spec_ListKeys.j0 k a1 a2 a3 (decide ((a2.size : Int) > 65536)) l0_0 a0_1)
theorem spec_ListKeys.mono_l : ∀ k,(∀ y0 y1 y2 y3 y4 y5,LeO (spec_ListKeys.j0 k y0 y1 y2 y3 y4 y5) (spec_ListKeys.j0 (k + 1) y0 y1 y2 y3 y4 y5))
 | 0 => fun _ _ _ _ _ _ r h => by simp [spec_ListKeys.j0] at h
 | k + 1 => by
  have ih0 := spec_ListKeys.mono_l k
  ·intro y0 y1 y2 y3 y4 y5
   unfold spec_ListKeys.j0
   repeat' first
   | (with_reducible exact ih0 _ _ _ _ _ _)
   | (with_reducible exact spec_StoreOK.mono _ _ _)
   | (with_reducible exact spec_l01List.mono _ _ _ _ _ _)
   | (with_reducible exact LeO.refl _)
   | (with_reducible exact LeO.none _)
   | (with_reducible refine LeO.ite ?_ ?_)
   | (with_reducible refine LeO.bind ?_ (fun _ => ?_))
   | exact ih0 _ _ _ _ _ _
   | exact spec_StoreOK.mono _ _ _
   | exact spec_l01List.mono _ _ _ _ _ _
   | exact LeO.none _
   | refine LeO.ite ?_ ?_
   | refine LeO.bind ?_ (fun _ => ?_)
theorem spec_ListKeys.mono : ∀ a0 a1 a2 a3 a4 k,LeO (spec_ListKeys.f k a0 a1 a2 a3 a4) (spec_ListKeys.f (k + 1) a0 a1 a2 a3 a4) := by
 intro a0 a1 a2 a3 a4 k
 have ih0 := spec_ListKeys.mono_l k
 unfold spec_ListKeys.f
 repeat' first
   | (with_reducible exact ih0 _ _ _ _ _ _)
   | (with_reducible exact spec_StoreOK.mono _ _ _)
   | (with_reducible exact spec_l01List.mono _ _ _ _ _ _)
   | (with_reducible exact LeO.refl _)
   | (with_reducible exact LeO.none _)
   | (with_reducible refine LeO.ite ?_ ?_)
   | (with_reducible refine LeO.bind ?_ (fun _ => ?_))
   | exact ih0 _ _ _ _ _ _
   | exact spec_StoreOK.mono _ _ _
   | exact spec_l01List.mono _ _ _ _ _ _
   | exact LeO.none _
   | refine LeO.ite ?_ ?_
   | refine LeO.bind ?_ (fun _ => ?_)
set_option maxHeartbeats 8000000 in
set_option maxRecDepth 100000 in
theorem spec_ListKeys.calls (k : Nat) (A0_0 : Option Addr) (c0_0 : Nat) (l0_0 : List (S71)) (a0_1 : Int) (a1 : ByteArray) (a2 : ByteArray) (a3 : Int) (r1 : List ByteArray) (r2 : Int) (w : World) (hr0_0 : Kd.C k71 w A0_0 l0_0.length l0_0) (hc0_0 : l0_0.length ≤ c0_0) (h : spec_ListKeys.f k l0_0 a0_1 a1 a2 a3 = some (r1,r2)) :
  Calls Try.prog 14 #[.agg #[.slice A0_0 l0_0.length c0_0,.int .i64 a0_1],.string a1,.string a2,.int .i64 a3] w fun e w' => ∃ v0_ : Value,e = .returned (.tuple #[v0_,.int .i64 r2]) ∧ Kd.R Kd.string 9 w' w.heap.size (fun _ => True) v0_ r1 ∧ Below w.heap.size w w' := by
 have hu28 := Try.underlying28
 have HR0_0 := Aside0.mk hr0_0
 have HC0_0 := Aside0.mk hc0_0
 clear hr0_0 hc0_0
 have HB := Aside0.mk (Below.refl w.heap.size w)
 have H : (if (a1.size : Int) > 65536 then (spec_ListKeys.j0 k a1 a2 a3 true l0_0 a0_1) else (spec_ListKeys.j0 k a1 a2 a3 (decide ((a2.size : Int) > 65536)) l0_0 a0_1)) = some (r1,r2) := h
 clear h
 have HC5 := Aside0.mk H
 clear H
 go_enter Try.func14,Try.ntmps14
 go_upto_region 1 with (first | ((with_reducible refine gate_dst (N:=4) rfl ?_); (try (refine gate_guard (by rfl) ?_; dsimp only)); refine box_event ?hg (N:=4) ?hd (cs := #[.slice A0_0 l0_0.length c0_0,.int .i64 a0_1]) (t:=28) ?hr ?_; (case hd => rfl); (case hg => rfl); (case hr => first | (go_simp; done) | (go_simp; rfl)); intro gb163 hg w6 hbox hb; have n0_ := Aside0.mk (below_step bA hb); have n1_ := Aside0.mk (hbox); have n2_ := Aside0.mk ((by rw [hg]; exact (below_size bA) : w.heap.size ≤ gb163)); have n3_ := Aside0.mk ((by rw [hg]; exact (below_size bA) : w.heap.size ≤ gb163)); clear HB; have HB := n0_; have BK163 := n1_; have GW163 := n2_; have GE163 := n3_; clear n0_ n1_ n2_ n3_; clear hb hbox hg))
 (try simp only [Act.put,setIfInBounds_toArray,set_cons_zero,set_cons_succ])
 go_cut [17] (fun v17 wc => ∃ (kq : Nat) (x17_4 : Bool),v17 = .bool x17_4 ∧ Aside0 (spec_ListKeys.j0 kq a1 a2 a3 x17_4 l0_0 a0_1 = some (r1,r2)) ∧ Aside0 (kq ≤ k) ∧ Aside0 (wc.heap[gb163]? = some (.cells #[(.slice A0_0 l0_0.length c0_0),.int .i64 a0_1] 28 (0,0))) ∧ Aside0 (Below w.heap.size w wc))
 case first =>
  have H := HC5.out
  clear HC5
  by_cases c7 : (a1.size : Int) > 65536
  ·rw [if_pos c7] at H
   have c7b0 : decide (65536 < (a1.size : Int)) = true := decide_eq_true c7
   have c7b1 : decide (65536 < a1.size) = true := decide_eq_true (by omega)
   clear c7
   (first | rw [c7b0] | (simp only [i64_w,i32_w]; rw [c7b0]) | skip)
   have H' := Aside0.mk H
   clear H
   go_wp2
   go_meet
   case rel => exact ⟨_,(true),(by first | rfl | (simp; done) | (simp [*]; done)),H',⟨by first | omega | exact Nat.le_refl _⟩,⟨kA BK163.out⟩,⟨bA⟩⟩
  ·rw [if_neg c7] at H
   have c7b0 : decide (65536 < (a1.size : Int)) = false := decide_eq_false c7
   have c7b1 : decide (65536 < a1.size) = false := decide_eq_false (by omega)
   clear c7
   (first | rw [c7b0] | (simp only [i64_w,i32_w]; rw [c7b0]) | skip)
   have H' := Aside0.mk H
   clear H
   go_wp2
   go_meet
   case rel => exact ⟨_,(decide ((a2.size : Int) > 65536)),(by first | rfl | (simp; done) | (simp [*]; done)),H',⟨by first | omega | exact Nat.le_refl _⟩,⟨kA BK163.out⟩,⟨bA⟩⟩
 case rest =>
  clear HC5
  try clear c1
  try clear p2
  try clear c7
  try clear c7b0
  try clear c7b1
  obtain ⟨kq,x17_4,rfl,HA,HJ4,BK163,HB⟩ := hcut
  cases kq with
  | zero => exact absurd HA.out (by simp [spec_ListKeys.j0])
  | succ kj4 =>
   have H := HA.out
   clear HA
   simp only [spec_ListKeys.j0] at H
   by_cases c8 : x17_4 = true
   ·subst c8
    rw [if_pos rfl] at H
    obtain ⟨y164,hy164⟩ : ∃ y_ : List ByteArray,y_ = (([] : List ByteArray)) := ⟨_,rfl⟩
    replace H : (some (y164,2)) = some (r1,r2) := by first | (rw [hy164]; with_reducible exact H) | (have H2_ := (Option.bind_some _ _).symm.trans H; rw [hy164]; with_reducible exact H2_) | (have H2_ := (Option.bind_some _ _).symm.trans H; with_reducible exact H2_) | with_reducible exact H | (rw [hy164]; exact H) | exact H
    have Ny164 := Aside0.mk hy164
    clear hy164
    simp only [Option.some.injEq,Prod.mk.injEq] at H
    obtain ⟨rfl,rfl⟩ := H
    go_wp2_with (first | ((with_reducible refine gate_dst (N:=18) rfl ?_); (try (refine gate_guard (by rfl) ?_; dsimp only)); refine Kd.R_lit Kd.string _ 9 ?hg (N:=18) ?hd (xs := ([] : List ByteArray)) (inner := []) (ok := fun _ => True) (okp := fun _ => True) ?hr ?hp (fun _ hk => hk) trivial (Below.refl _ _) (Nat.le_refl _) (by simp) ?_; (case hd => rfl); (case hg => rfl); (case hr => first | (go_simp; done) | (go_simp; rfl)); (case hp => exact (Reps.none _ _)); intro v165 w9 ho10 hb hg_ hnew_; clear hg_ hnew_; (first | rw [← Ny164.out] at ho10 | (simp only [Int.reduceToNat] at ho10; rw [← Ny164.out] at ho10)); have n0_ := Aside0.mk (Kd.R_lower ho10 (below_size bA)); have n1_ := Aside0.mk (blk_below (g:=gb163) (o:=.cells #[.slice A0_0 l0_0.length c0_0,.int .i64 a0_1] 28 (0,0)) (kA BK163.out) hb); have n2_ := Aside0.mk (below_step bA hb); clear BK163; clear HB; have HO166 := n0_; have BK163 := n1_; have HB := n2_; clear n0_ n1_ n2_; clear hb ho10))
    go_ret2
    exact ⟨_,by first | rfl | (simp [errW_none,errW_some] <;> rfl) | (simp [*,errW_none,errW_some] <;> rfl),rA HO166.out,bA⟩
   ·replace c8 := Bool.eq_false_iff.mpr c8
    subst c8
    rw [if_neg (show ¬ (false = true) by decide)] at H
    replace H := Option.bind_eq_some_iff.mp H
    obtain ⟨t167,A110,H⟩ := H
    try dsimp only at H
    have A11 := Aside0.mk A110
    clear A110
    by_cases c12 : t167 = true
    ·subst c12
     rw [if_pos rfl] at H
     replace H := Option.bind_eq_some_iff.mp H
     obtain ⟨t171,A130,H⟩ := H
     try dsimp only at H
     have A13 := Aside0.mk A130
     clear A130
     by_cases c14 : t171 = true
     ·subst c14
      rw [if_pos rfl] at H
      replace H := Option.bind_eq_some_iff.mp H
      obtain ⟨t172,A150,H⟩ := H
      try dsimp only at H
      have A15 := Aside0.mk A150
      clear A150
      simp only [Option.some.injEq,Prod.mk.injEq] at H
      obtain ⟨rfl,rfl⟩ := H
      have hcz16_0 : wc.cell? ⟨gb163,0,none⟩ = some (.slice A0_0 l0_0.length c0_0) := (blk_cell BK163.out 0).trans rfl
      have hcz16_1 : wc.cell? ⟨gb163,1,none⟩ = some (.int .i64 a0_1) := (blk_cell BK163.out 1).trans rfl
      have hfz16_0 := blk_frozen BK163.out 0
      have hfz16_1 := blk_frozen BK163.out 1
      go_wp2_with (first | ((with_reducible refine gate_callee (f:=37) rfl ?_); refine goesL_ (some 20) rfl rfl Try.func37 (by kernel_rfl) rfl #[.agg #[.slice A0_0 l0_0.length c0_0,.int .i64 a0_1]] rfl mA ?_; (with_reducible refine (spec_StoreOK.calls kj4 _ _ l0_0 a0_1 true _ ?side1 ?side2 A11.out).mono ?_); (case side1 => repeat (first | exact (Kd.C_below HR0_0.out HB.out) | (with_reducible refine Kd.C_alloc ?_ _) | (with_reducible refine Kd.C_drewN ?_ _) | (with_reducible refine Kd.C_drew ?_))); (case side2 => exact HC0_0.out); rintro e w17 ⟨rfl,hb⟩; refine ⟨_,rfl,?_⟩; have n0_ := Aside0.mk (blk_below (g:=gb163) (o:=.cells #[.slice A0_0 l0_0.length c0_0,.int .i64 a0_1] 28 (0,0)) (kA BK163.out) hb); have n1_ := Aside0.mk (below_step bA hb); clear BK163; clear HB; have BK163 := n0_; have HB := n1_; clear n0_ n1_; (try clear hb); (try clear hb2); (try clear hk); (try clear hi)) | ((with_reducible refine gate_callee (f:=38) rfl ?_); refine goesL_ (some 24) rfl rfl Try.func38 (by kernel_rfl) rfl #[.int .i64 a3,.int .i64 0,.int .i64 300] rfl mA ?_; (with_reducible refine (spec_l01In.calls a3 0 300 true _ A13.out).mono ?_); rintro e w' ⟨rfl,⟨nd,rfl⟩⟩; refine ⟨_,rfl,?_⟩; have hcz18_0 : w17.cell? ⟨gb163,0,none⟩ = some (.slice A0_0 l0_0.length c0_0) := (blk_cell BK163.out 0).trans rfl; have hcz18_1 : w17.cell? ⟨gb163,1,none⟩ = some (.int .i64 a0_1) := (blk_cell BK163.out 1).trans rfl; have hfz18_0 := blk_frozen BK163.out 0; have hfz18_1 := blk_frozen BK163.out 1) | ((with_reducible refine gate_callee (f:=39) rfl ?_); refine goesL_ (some 31) rfl rfl Try.func39 (by kernel_rfl) rfl #[.agg #[.slice A0_0 l0_0.length c0_0,.int .i64 a0_1],.string a1,.string a2,.int .i64 a3] rfl mA ?_; (with_reducible refine (spec_l01List.calls kj4 _ _ l0_0 a0_1 a1 a2 a3 t172 _ ?side1 ?side2 A15.out).mono ?_); (case side1 => repeat (first | exact (Kd.C_below HR0_0.out bA) | (with_reducible refine Kd.C_alloc ?_ _) | (with_reducible refine Kd.C_drewN ?_ _) | (with_reducible refine Kd.C_drew ?_))); (case side2 => exact HC0_0.out); rintro e w19 ⟨v173,rfl,ho0,hb⟩; refine ⟨_,rfl,?_⟩; have n0_ := Aside0.mk (Kd.R_lower ho0 (below_size bA)); have n1_ := Aside0.mk (blk_below (g:=gb163) (o:=.cells #[.slice A0_0 l0_0.length c0_0,.int .i64 a0_1] 28 (0,0)) (kA BK163.out) hb); have n2_ := Aside0.mk (below_step bA hb); clear BK163; clear HB; have HO174 := n0_; have BK163 := n1_; have HB := n2_; clear n0_ n1_ n2_; (try clear hb); (try clear hb2); (try clear hk); (try clear hi); (try clear ho0)))
      go_ret2
      exact ⟨_,by first | rfl | (simp [errW_none,errW_some] <;> rfl) | (simp [*,errW_none,errW_some] <;> rfl),rA HO174.out,bA⟩
     ·replace c14 := Bool.eq_false_iff.mpr c14
      subst c14
      rw [if_neg (show ¬ (false = true) by decide)] at H
      obtain ⟨y175,hy175⟩ : ∃ y_ : List ByteArray,y_ = (([] : List ByteArray)) := ⟨_,rfl⟩
      replace H : (some (y175,4)) = some (r1,r2) := by first | (rw [hy175]; with_reducible exact H) | (have H2_ := (Option.bind_some _ _).symm.trans H; rw [hy175]; with_reducible exact H2_) | (have H2_ := (Option.bind_some _ _).symm.trans H; with_reducible exact H2_) | with_reducible exact H | (rw [hy175]; exact H) | exact H
      have Ny175 := Aside0.mk hy175
      clear hy175
      simp only [Option.some.injEq,Prod.mk.injEq] at H
      obtain ⟨rfl,rfl⟩ := H
      have hcz20_0 : wc.cell? ⟨gb163,0,none⟩ = some (.slice A0_0 l0_0.length c0_0) := (blk_cell BK163.out 0).trans rfl
      have hcz20_1 : wc.cell? ⟨gb163,1,none⟩ = some (.int .i64 a0_1) := (blk_cell BK163.out 1).trans rfl
      have hfz20_0 := blk_frozen BK163.out 0
      have hfz20_1 := blk_frozen BK163.out 1
      go_wp2_with (first | ((with_reducible refine gate_callee (f:=37) rfl ?_); refine goesL_ (some 20) rfl rfl Try.func37 (by kernel_rfl) rfl #[.agg #[.slice A0_0 l0_0.length c0_0,.int .i64 a0_1]] rfl mA ?_; (with_reducible refine (spec_StoreOK.calls kj4 _ _ l0_0 a0_1 true _ ?side1 ?side2 A11.out).mono ?_); (case side1 => repeat (first | exact (Kd.C_below HR0_0.out HB.out) | (with_reducible refine Kd.C_alloc ?_ _) | (with_reducible refine Kd.C_drewN ?_ _) | (with_reducible refine Kd.C_drew ?_))); (case side2 => exact HC0_0.out); rintro e w21 ⟨rfl,hb⟩; refine ⟨_,rfl,?_⟩; have n0_ := Aside0.mk (blk_below (g:=gb163) (o:=.cells #[.slice A0_0 l0_0.length c0_0,.int .i64 a0_1] 28 (0,0)) (kA BK163.out) hb); have n1_ := Aside0.mk (below_step bA hb); clear BK163; clear HB; have BK163 := n0_; have HB := n1_; clear n0_ n1_; (try clear hb); (try clear hb2); (try clear hk); (try clear hi)) | ((with_reducible refine gate_callee (f:=38) rfl ?_); refine goesL_ (some 24) rfl rfl Try.func38 (by kernel_rfl) rfl #[.int .i64 a3,.int .i64 0,.int .i64 300] rfl mA ?_; (with_reducible refine (spec_l01In.calls a3 0 300 false _ A13.out).mono ?_); rintro e w' ⟨rfl,⟨nd,rfl⟩⟩; refine ⟨_,rfl,?_⟩) | ((with_reducible refine gate_dst (N:=26) rfl ?_); (try (refine gate_guard (by rfl) ?_; dsimp only)); refine Kd.R_lit Kd.string _ 9 ?hg (N:=26) ?hd (xs := ([] : List ByteArray)) (inner := []) (ok := fun _ => True) (okp := fun _ => True) ?hr ?hp (fun _ hk => hk) trivial (Below.refl _ _) (Nat.le_refl _) (by simp) ?_; (case hd => rfl); (case hg => rfl); (case hr => first | (go_simp; done) | (go_simp; rfl)); (case hp => exact (Reps.none _ _)); intro v176 w22 ho23 hb hg_ hnew_; clear hg_ hnew_; (first | rw [← Ny175.out] at ho23 | (simp only [Int.reduceToNat] at ho23; rw [← Ny175.out] at ho23)); have n0_ := Aside0.mk (Kd.R_lower ho23 (below_size bA)); have n1_ := Aside0.mk (blk_below (g:=gb163) (o:=.cells #[.slice A0_0 l0_0.length c0_0,.int .i64 a0_1] 28 (0,0)) (kA BK163.out) hb); have n2_ := Aside0.mk (below_step bA hb); clear BK163; clear HB; have HO177 := n0_; have BK163 := n1_; have HB := n2_; clear n0_ n1_ n2_; clear hb ho23))
      go_ret2
      exact ⟨_,by first | rfl | (simp [errW_none,errW_some] <;> rfl) | (simp [*,errW_none,errW_some] <;> rfl),rA HO177.out,bA⟩
    ·replace c12 := Bool.eq_false_iff.mpr c12
     subst c12
     rw [if_neg (show ¬ (false = true) by decide)] at H
     obtain ⟨y168,hy168⟩ : ∃ y_ : List ByteArray,y_ = (([] : List ByteArray)) := ⟨_,rfl⟩
     replace H : (some (y168,1)) = some (r1,r2) := by first | (rw [hy168]; with_reducible exact H) | (have H2_ := (Option.bind_some _ _).symm.trans H; rw [hy168]; with_reducible exact H2_) | (have H2_ := (Option.bind_some _ _).symm.trans H; with_reducible exact H2_) | with_reducible exact H | (rw [hy168]; exact H) | exact H
     have Ny168 := Aside0.mk hy168
     clear hy168
     simp only [Option.some.injEq,Prod.mk.injEq] at H
     obtain ⟨rfl,rfl⟩ := H
     have hcz24_0 : wc.cell? ⟨gb163,0,none⟩ = some (.slice A0_0 l0_0.length c0_0) := (blk_cell BK163.out 0).trans rfl
     have hcz24_1 : wc.cell? ⟨gb163,1,none⟩ = some (.int .i64 a0_1) := (blk_cell BK163.out 1).trans rfl
     have hfz24_0 := blk_frozen BK163.out 0
     have hfz24_1 := blk_frozen BK163.out 1
     go_wp2_with (first | ((with_reducible refine gate_callee (f:=37) rfl ?_); refine goesL_ (some 20) rfl rfl Try.func37 (by kernel_rfl) rfl #[.agg #[.slice A0_0 l0_0.length c0_0,.int .i64 a0_1]] rfl mA ?_; (with_reducible refine (spec_StoreOK.calls kj4 _ _ l0_0 a0_1 false _ ?side1 ?side2 A11.out).mono ?_); (case side1 => repeat (first | exact (Kd.C_below HR0_0.out HB.out) | (with_reducible refine Kd.C_alloc ?_ _) | (with_reducible refine Kd.C_drewN ?_ _) | (with_reducible refine Kd.C_drew ?_))); (case side2 => exact HC0_0.out); rintro e w25 ⟨rfl,hb⟩; refine ⟨_,rfl,?_⟩; have n0_ := Aside0.mk (blk_below (g:=gb163) (o:=.cells #[.slice A0_0 l0_0.length c0_0,.int .i64 a0_1] 28 (0,0)) (kA BK163.out) hb); have n1_ := Aside0.mk (below_step bA hb); clear BK163; clear HB; have BK163 := n0_; have HB := n1_; clear n0_ n1_; (try clear hb); (try clear hb2); (try clear hk); (try clear hi)) | ((with_reducible refine gate_dst (N:=22) rfl ?_); (try (refine gate_guard (by rfl) ?_; dsimp only)); refine Kd.R_lit Kd.string _ 9 ?hg (N:=22) ?hd (xs := ([] : List ByteArray)) (inner := []) (ok := fun _ => True) (okp := fun _ => True) ?hr ?hp (fun _ hk => hk) trivial (Below.refl _ _) (Nat.le_refl _) (by simp) ?_; (case hd => rfl); (case hg => rfl); (case hr => first | (go_simp; done) | (go_simp; rfl)); (case hp => exact (Reps.none _ _)); intro v169 w26 ho27 hb hg_ hnew_; clear hg_ hnew_; (first | rw [← Ny168.out] at ho27 | (simp only [Int.reduceToNat] at ho27; rw [← Ny168.out] at ho27)); have n0_ := Aside0.mk (Kd.R_lower ho27 (below_size bA)); have n1_ := Aside0.mk (blk_below (g:=gb163) (o:=.cells #[.slice A0_0 l0_0.length c0_0,.int .i64 a0_1] 28 (0,0)) (kA BK163.out) hb); have n2_ := Aside0.mk (below_step bA hb); clear BK163; clear HB; have HO170 := n0_; have BK163 := n1_; have HB := n2_; clear n0_ n1_ n2_; clear hb ho27))
     go_ret2
     exact ⟨_,by first | rfl | (simp [errW_none,errW_some] <;> rfl) | (simp [*,errW_none,errW_some] <;> rfl),rA HO170.out,bA⟩

/-! ### impl_first: function 28 -/
def impl_first.l0 : Nat → List AnyV → Int → Option (Int)
 | 0,_,_ => none
 | k + 1,x0,x3 => if (wrap64 (x3 + 1)) < (x0.length : Int) then (if 0 ≤ x3 then (if x3 < (x0.length : Int) then (if anyAsB (rdOf anyZ x0 x3) = true then (if 0 ≤ (wrap64 (x3 + 1)) then (some (anyAsI (rdOf anyZ x0 (wrap64 (x3 + 1))))) else (none)) else (impl_first.l0 k x0 (wrap64 (x3 + 2)))) else (none)) else (none)) else (some 0)
def impl_first.f (k : Nat) (l0 : List AnyV) : Option (Int) := impl_first.l0 k l0 0
theorem impl_first.mono_l : ∀ k,(∀ y0 y1,LeO (impl_first.l0 k y0 y1) (impl_first.l0 (k + 1) y0 y1))
 | 0 => fun _ _ r h => by simp [impl_first.l0] at h
 | k + 1 => by
  have ih0 := impl_first.mono_l k
  ·intro y0 y1
   unfold impl_first.l0
   repeat' first
   | (with_reducible exact ih0 _ _)
   | (with_reducible exact LeO.refl _)
   | (with_reducible exact LeO.none _)
   | (with_reducible refine LeO.ite ?_ ?_)
   | (with_reducible refine LeO.bind ?_ (fun _ => ?_))
   | exact ih0 _ _
   | exact LeO.none _
   | refine LeO.ite ?_ ?_
   | refine LeO.bind ?_ (fun _ => ?_)
theorem impl_first.mono : ∀ a0 k,LeO (impl_first.f k a0) (impl_first.f (k + 1) a0) := by
 intro a0 k
 have ih0 := impl_first.mono_l k
 unfold impl_first.f
 repeat' first
   | (with_reducible exact ih0 _ _)
   | (with_reducible exact LeO.refl _)
   | (with_reducible exact LeO.none _)
   | (with_reducible refine LeO.ite ?_ ?_)
   | (with_reducible refine LeO.bind ?_ (fun _ => ?_))
   | exact ih0 _ _
   | exact LeO.none _
   | refine LeO.ite ?_ ?_
   | refine LeO.bind ?_ (fun _ => ?_)
set_option maxHeartbeats 8000000 in
set_option maxRecDepth 100000 in
theorem impl_first.calls (k : Nat) (A0 : Option Addr) (c0 : Nat) (l0 : List AnyV) (r : Int) (w : World) (hr0 : Kd.C kAny w A0 l0.length l0) (hc0 : l0.length ≤ c0) (h : impl_first.f k l0 = some r) :
  Calls Try.prog 28 #[.slice A0 l0.length c0] w fun e w' => e = .returned (.int .i64 r) ∧ Drawn0 w w' := by
 have htaB := fun (x : AnyV) (W : World) => htaB_ x W
 have hua20 := Try.underlying20
 have htaI := fun (x : AnyV) (W : World) => htaI_ x W
 have HR0 := Aside0.mk hr0
 have HC0 := Aside0.mk hc0
 clear hr0 hc0
 have H : (impl_first.l0 k l0 0) = some r := h
 clear h
 have H' := Aside0.mk H
 clear H
 go_enter Try.func28,Try.ntmps28
 go_wp2
 go_loopg [3] k (fun kq v3 w' => ∃ (x3_1 : Int),v3 = .int .i64 x3_1 ∧ Aside0 (impl_first.l0 kq l0 x3_1 = some r) ∧ Aside0 (kq ≤ k) ∧ Drawn0 w w')
 case atStart => exact ⟨(0),(by first | rfl | (simp; done) | (simp [*]; done)),H',⟨Nat.le_refl _⟩,by repeat (first | exact Drawn0.refl _ | apply Drawn0.step)⟩
 case round =>
  clear H'
  obtain ⟨x3_1,rfl,HA,HK1,⟨m1,rfl⟩⟩ := hrel
  cases gk with
  | zero => exact absurd HA.out (by simp [impl_first.l0])
  | succ k1 =>
   have H := HA.out
   clear HA
   simp only [impl_first.l0] at H
   by_cases c2 : (wrap64 (x3_1 + 1)) < (l0.length : Int)
   ·rw [if_pos c2] at H
    have c2b0 : decide ((wrap64 (x3_1 + 1)) < (l0.length : Int)) = true := decide_eq_true c2
    clear c2
    by_cases c3 : 0 ≤ x3_1
    ·rw [if_pos c3] at H
     have c3b0 : decide (0 ≤ x3_1) = true := decide_eq_true c3
     clear c3
     by_cases c4 : x3_1 < (l0.length : Int)
     ·rw [if_pos c4] at H
      have c4b0 : decide (x3_1 < (l0.length : Int)) = true := decide_eq_true c4
      clear c4
      by_cases c5 : anyAsB (rdOf anyZ l0 x3_1) = true
      ·rw [if_pos c5] at H
       have c5b0 : anyAsB (rdOf anyZ l0 x3_1) = true := c5
       clear c5
       obtain ⟨ji6,hji6⟩ : ∃ j_ : Int,(wrap64 (x3_1 + 1)) = j_ := ⟨_,rfl⟩
       replace H : (if 0 ≤ (ji6) then (some (anyAsI (rdOf anyZ l0 (ji6)))) else (none)) = some r := by first | (rw [hji6] at H; exact H) | (simp only [hji6] at H ⊢; exact H)
       (try rw [hji6] at c2b0)
       have hji6w : (IntKind.i64.wrap (x3_1 + 1)) = ji6 := (i64_w _).trans hji6
       by_cases c7 : 0 ≤ (ji6)
       ·rw [if_pos c7] at H
        have c7b0 : decide (0 ≤ (ji6)) = true := decide_eq_true c7
        clear c7
        obtain rfl := Option.some.inj H
        have p178 : 0 ≤ (x3_1 : Int) := of_decide_eq_true (by first | (with_reducible assumption) | assumption)
        have q178 : x3_1 < (l0.length : Int) := of_decide_eq_true (by first | (with_reducible assumption) | assumption)
        obtain ⟨ad178,e178,hx178_0⟩ := kAny_at HR0.out x3_1 p178 q178
        cases e178
        replace p178 := eq_true p178
        replace q178 := eq_true q178
        have p179 : 0 ≤ ((ji6) : Int) := of_decide_eq_true (by first | (with_reducible assumption) | assumption)
        have q179 : (ji6) < (l0.length : Int) := of_decide_eq_true (by first | (with_reducible assumption) | assumption)
        obtain ⟨ad179,e179,hx179_0⟩ := kAny_at HR0.out (ji6) p179 q179
        obtain rfl : ad178 = ad179 := (by injection e179)
        replace p179 := eq_true p179
        replace q179 := eq_true q179
        go_wp2
        go_ret
        exact ⟨by first | rfl | (simp; done) | (simp only [← hji6] <;> (first | rfl | simp)) | (simp [*]; done),by repeat (first | exact Drawn0.refl _ | apply Drawn0.step)⟩
       ·rw [if_neg c7] at H
        exact absurd H (by simp)
      ·rw [if_neg c5] at H
       have c5b0 : anyAsB (rdOf anyZ l0 x3_1) = false := by simpa using c5
       clear c5
       have H' := Aside0.mk H
       clear H
       have p178 : 0 ≤ (x3_1 : Int) := of_decide_eq_true (by first | (with_reducible assumption) | assumption)
       have q178 : x3_1 < (l0.length : Int) := of_decide_eq_true (by first | (with_reducible assumption) | assumption)
       obtain ⟨ad178,e178,hx178_0⟩ := kAny_at HR0.out x3_1 p178 q178
       cases e178
       replace p178 := eq_true p178
       replace q178 := eq_true q178
       go_wp2
       go_roundg k1
       case measure => have := HK1.out; omega
       case rel => exact ⟨(wrap64 (x3_1 + 2)),(by first | rfl | (simp; done) | (simp [*]; done)),H',⟨by have := HK1.out; omega⟩,by repeat (first | exact Drawn0.refl _ | apply Drawn0.step)⟩
     ·rw [if_neg c4] at H
      exact absurd H (by simp)
    ·rw [if_neg c3] at H
     exact absurd H (by simp)
   ·rw [if_neg c2] at H
    have c2b0 : decide ((wrap64 (x3_1 + 1)) < (l0.length : Int)) = false := decide_eq_false c2
    clear c2
    obtain rfl := Option.some.inj H
    go_wp2
    go_ret
    exact ⟨by first | rfl | (simp; done) | (simp [*]; done),by repeat (first | exact Drawn0.refl _ | apply Drawn0.step)⟩

/-! ### impl_isLong: function 29 (by hand) -/
def shortB (s : ByteArray) : Bool := decide ((s.size : Int) ≤ 65536)
theorem isLong_one (s : ByteArray) (W : World) : Calls Try.prog 56 #[.string s] W fun e w' => e = .returned (.bool (shortB s)) ∧ W = w' := by
 go_enter Try.func56,Try.ntmps56
 go_wp2
 go_ret
 exact ⟨rfl,rfl⟩
theorem isLong_not (s : ByteArray) (B : Nat) (W : World) (hc : W.cell? ⟨B,0,none⟩ = some (.func (.func 56) #[] #[])) : Calls Try.prog 72 #[.string s,.pointer (some ⟨B,0,none⟩)] W fun e w' => e = .returned (.bool (!(shortB s))) ∧ W = w' := by
 go_enter Try.func72,Try.ntmps72
 go_wp2_with (first | (go_at_call 56; refine (isLong_one s _).mono ?_; rintro e w' ⟨rfl,rfl⟩) | (go_at_fn 56; refine (isLong_one s _).mono ?_; rintro e w' ⟨rfl,rfl⟩))
 go_ret
 exact ⟨rfl,rfl⟩
theorem isLong_pred (w : World) : PredAt Try.prog 72 #[.pointer (some ⟨w.heap.size,0,none⟩)] Value.string (fun s => !(shortB s)) (w.alloc (.cells #[.func (.func 56) #[] #[]] 62)) := fun W x hb => by
 have hc : W.cell? ⟨w.heap.size,0,none⟩ = some (.func (.func 56) #[] #[]) := (hb.cell (p:=⟨w.heap.size,0,none⟩) (by simp)).trans (by simp)
 exact (isLong_not x w.heap.size W hc).mono fun e w' ⟨he,hw⟩ => ⟨he,0,hw.symm⟩
set_option maxHeartbeats 2000000 in
theorem isLong_all (A0 : Option Addr) (c0 : Nat) (l0 : List ByteArray) (w : World) (hr0 : Kd.C Kd.string w A0 l0.length l0) :
  Calls Try.prog 55 #[.slice A0 l0.length c0,.func (.func 56) #[] #[]] w fun e w' => e = .returned (.bool (!(l0.any fun s => !(shortB s)))) ∧ Below w.heap.size w w' := by
 have eg : ∀ args w,(callFunc 72 args).run Try.prog w = .ok (.enter 72 args) w := enters_of Try.func72 (by kernel_rfl) rfl
 have hcon : Calls Try.prog 71 #[.slice A0 l0.length c0,.func (.func 72) #[] #[.pointer (some ⟨w.heap.size,0,none⟩)]] (w.alloc (.cells #[.func (.func 56) #[] #[]] 62)) fun e w' => e = .returned (.bool (l0.any fun s => !(shortB s))) ∧ ∃ q,w' = (w.alloc (.cells #[.func (.func 56) #[] #[]] 62)).drewN q := by
  rcases C_cells hr0 with rfl | ⟨b,o,rfl,hc⟩
  ·exact (Try.slices_ContainsFunc_empty (α := ByteArray) A0 c0 _ _).mono fun e w' ⟨he,hw⟩ => ⟨he,0,hw⟩
  ·have := Try.slices_ContainsFunc Value.string (fun s => !(shortB s)) 72 #[.pointer (some ⟨w.heap.size,0,none⟩)] eg b o l0.length c0 l0 _ (isLong_pred w) (Nat.le_refl _) hr0.2.1 (fun j hj => (fun h => (World.cell?_alloc_lt _ _ _ (World.block_lt_of_cell? _ _ h)).trans h) (hc j _ (by rw [List.getElem?_eq_getElem hj,getElem!_pos l0 j hj])))
   rw [List.take_length] at this
   exact this
 clear hr0
 generalize (l0.any fun s => !(shortB s)) = q at hcon ⊢
 generalize l0.length = n at hcon ⊢
 have hcon := Aside0.mk hcon
 go_enter Try.func55,Try.ntmps55
 go_wp2_with (go_at_call 71; refine hcon.out.mono ?_; rintro e w' ⟨rfl,q,rfl⟩)
 go_ret
 exact ⟨rfl,below_drewN' ((Below.refl _ w).alloc (Nat.le_refl _) _) _⟩
def impl_isLong.f (l0 : List ByteArray) : Option Bool := some (l0.any fun s => !(shortB s))
set_option maxHeartbeats 2000000 in
theorem impl_isLong.calls (A0 : Option Addr) (c0 : Nat) (l0 : List ByteArray) (r : Bool) (w : World) (hr0 : Kd.C Kd.string w A0 l0.length l0) (hc0 : l0.length ≤ c0) (h : impl_isLong.f l0 = some r) :
  Calls Try.prog 29 #[.slice A0 l0.length c0] w fun e w' => e = .returned (.bool r) ∧ Below w.heap.size w w' := by
 obtain rfl := Option.some.inj h
 have hcon := Aside0.mk (isLong_all A0 c0 l0 w hr0)
 clear hr0 hc0 h
 generalize (l0.any fun s => !(shortB s)) = q at hcon ⊢
 generalize l0.length = n at hcon ⊢
 go_enter Try.func29,Try.ntmps29
 go_wp2_with (go_at_call 55; refine hcon.out.mono ?_; rintro e w' ⟨rfl,hb⟩; have HB := Aside0.mk hb; clear hb)
 go_ret
 exact ⟨by simp,HB.out⟩

/-! ### impl_within: function 41 -/
def impl_within.f (a0 : Int) (a1 : Int) (a2 : Int) : Option (Bool) := if a1 ≤ a0 then (some (decide (a0 ≤ a2))) else (some false)
set_option maxHeartbeats 8000000 in
set_option maxRecDepth 100000 in
theorem impl_within.calls (a0 : Int) (a1 : Int) (a2 : Int) (r : Bool) (w : World) (h : impl_within.f a0 a1 a2 = some r) :
  Calls Try.prog 41 #[.int .i64 a0,.int .i64 a1,.int .i64 a2] w fun e w' => e = .returned (.bool r) ∧ Drawn0 w w' := by
 have H : (if a1 ≤ a0 then (some (decide (a0 ≤ a2))) else (some false)) = some r := h
 clear h
 by_cases c4 : a1 ≤ a0
 ·rw [if_pos c4] at H
  have c4b0 : decide (a1 ≤ a0) = true := decide_eq_true c4
  clear c4
  obtain rfl := Option.some.inj H
  go_enter Try.func41,Try.ntmps41
  go_wp2
  go_ret
  exact ⟨by first | rfl | (simp; done) | (simp [*]; done),by repeat (first | exact Drawn0.refl _ | apply Drawn0.step)⟩
 ·rw [if_neg c4] at H
  have c4b0 : decide (a1 ≤ a0) = false := decide_eq_false c4
  clear c4
  obtain rfl := Option.some.inj H
  go_enter Try.func41,Try.ntmps41
  go_wp2
  go_ret
  exact ⟨by first | rfl | (simp; done) | (simp [*]; done),by repeat (first | exact Drawn0.refl _ | apply Drawn0.step)⟩

end Go.Proofs.Ytbodkbaniebfaaa.XFnExactListKeys
