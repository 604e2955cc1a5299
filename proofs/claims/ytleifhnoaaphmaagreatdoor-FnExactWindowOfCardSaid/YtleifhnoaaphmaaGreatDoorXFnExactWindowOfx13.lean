-- Printed by this session's own program wip/tools/xprint.py, which widens the kit's print. Not trusted: Lean checks it.
import Derived.Test.YtleifhnoaaphmaaGreatDoorXFnExactWindowOfx0
import Derived.Test.YtleifhnoaaphmaaGreatDoorXFnExactWindowOfx12
namespace Go.Proofs.YtleifhnoaaphmaaGreatDoor.XFnExactWindowOf
open List (setIfInBounds_toArray set_cons_zero set_cons_succ)
open Go.RowKit Go.Proofs.YtleifhnoaaphmaaGreatDoorW.PrintWords Go.Proofs.YtleifhnoaaphmaaGreatDoorW.PrintLast Go.Proofs.YtleifhnoaaphmaaGreatDoorW.PrintMore
attribute [local go_sem] max2_int min2_int max_two min_two max_three min_three max_four min_four   -- for this text's walks alone
set_option linter.unusedVariables false
set_option linter.unusedSimpArgs false

/-! ### impl_SamplesOK: function 50 -/
mutual
def impl_SamplesOK.l0 : Nat → List (S49) → List (S49) → Int → Int → Option (Bool)
 | 0,_,_,_,_ => none
 | k + 1,x0,x7,x8,x9 => if x9 < x8 then (if 0 ≤ x9 then (if x9 < (x7.length : Int) then ((impl_isMoment.f ((rd_T49 x7 x9).f0)).bind fun t387 => (if t387 = true then ((impl_isValue.f ((rd_T49 x7 x9).f1)).bind fun t388 => (if t388 = true then (if x9 > 0 then (if 0 ≤ (wrap64 (x9 - 1)) then (if (wrap64 (x9 - 1)) < (x0.length : Int) then (impl_SamplesOK.j1 k x0 x7 x8 x9 (decide (((rd_T49 x7 x9).f0) ≤ ((rd_T49 x0 (wrap64 (x9 - 1))).f0)))) else (none)) else (none)) else (impl_SamplesOK.j1 k x0 x7 x8 x9 false)) else (impl_SamplesOK.j1 k x0 x7 x8 x9 true))) else (impl_SamplesOK.j1 k x0 x7 x8 x9 true))) else (none)) else (none)) else (some true)
def impl_SamplesOK.j1 : Nat → List (S49) → List (S49) → Int → Int → Bool → Option (Bool)
 | 0,_,_,_,_,_ => none
 | k + 1,x0,x7,x8,x9,x38 => if x38 = true then (some false) else (impl_SamplesOK.l0 k x0 x7 x8 (wrap64 (x9 + 1)))
end
def impl_SamplesOK.f (k : Nat) (l0 : List (S49)) : Option (Bool) := (impl_Sample.f l0).bind fun t384 => (if t384 = true then (some false) else (impl_SamplesOK.l0 k l0 l0 (l0.length : Int) 0))
theorem impl_SamplesOK.mono_l : ∀ k,(∀ y0 y1 y2 y3,LeO (impl_SamplesOK.l0 k y0 y1 y2 y3) (impl_SamplesOK.l0 (k + 1) y0 y1 y2 y3)) ∧ (∀ y0 y1 y2 y3 y4,LeO (impl_SamplesOK.j1 k y0 y1 y2 y3 y4) (impl_SamplesOK.j1 (k + 1) y0 y1 y2 y3 y4))
 | 0 => ⟨fun _ _ _ _ r h => by simp [impl_SamplesOK.l0] at h,fun _ _ _ _ _ r h => by simp [impl_SamplesOK.j1] at h⟩
 | k + 1 => by
  obtain ⟨ih0,ih1⟩ := impl_SamplesOK.mono_l k
  refine ⟨?_,?_⟩
  ·intro y0 y1 y2 y3
   unfold impl_SamplesOK.l0
   repeat' first
   | (with_reducible exact ih0 _ _ _ _)
   | (with_reducible exact ih1 _ _ _ _ _)
   | (with_reducible exact LeO.refl _)
   | (with_reducible exact LeO.none _)
   | (with_reducible refine LeO.ite ?_ ?_)
   | (with_reducible refine LeO.bind ?_ (fun _ => ?_))
   | exact ih0 _ _ _ _
   | exact ih1 _ _ _ _ _
   | exact LeO.none _
   | refine LeO.ite ?_ ?_
   | refine LeO.bind ?_ (fun _ => ?_)
  ·intro y0 y1 y2 y3 y4
   unfold impl_SamplesOK.j1
   repeat' first
   | (with_reducible exact ih0 _ _ _ _)
   | (with_reducible exact ih1 _ _ _ _ _)
   | (with_reducible exact LeO.refl _)
   | (with_reducible exact LeO.none _)
   | (with_reducible refine LeO.ite ?_ ?_)
   | (with_reducible refine LeO.bind ?_ (fun _ => ?_))
   | exact ih0 _ _ _ _
   | exact ih1 _ _ _ _ _
   | exact LeO.none _
   | refine LeO.ite ?_ ?_
   | refine LeO.bind ?_ (fun _ => ?_)
theorem impl_SamplesOK.mono : ∀ a0 k,LeO (impl_SamplesOK.f k a0) (impl_SamplesOK.f (k + 1) a0) := by
 intro a0 k
 obtain ⟨ih0,ih1⟩ := impl_SamplesOK.mono_l k
 unfold impl_SamplesOK.f
 repeat' first
   | (with_reducible exact ih0 _ _ _ _)
   | (with_reducible exact ih1 _ _ _ _ _)
   | (with_reducible exact LeO.refl _)
   | (with_reducible exact LeO.none _)
   | (with_reducible refine LeO.ite ?_ ?_)
   | (with_reducible refine LeO.bind ?_ (fun _ => ?_))
   | exact ih0 _ _ _ _
   | exact ih1 _ _ _ _ _
   | exact LeO.none _
   | refine LeO.ite ?_ ?_
   | refine LeO.bind ?_ (fun _ => ?_)
set_option maxHeartbeats 8000000 in
set_option maxRecDepth 100000 in
theorem impl_SamplesOK.calls (k : Nat) (A0 : Option Addr) (c0 : Nat) (l0 : List (S49)) (r : Bool) (w : World) (hr0 : Kd.C k49 w A0 l0.length l0) (hc0 : l0.length ≤ c0) (h : impl_SamplesOK.f k l0 = some r) :
  Calls Tryz.prog 50 #[.slice A0 l0.length c0] w fun e w' => e = .returned (.bool r) ∧ Below w.heap.size w w' := by
 have hu49 := Tryz.underlying49
 have HR0 := Aside0.mk hr0
 have HC0 := Aside0.mk hc0
 clear hr0 hc0
 have HB := Aside0.mk (Below.refl w.heap.size w)
 have H : ((impl_Sample.f l0).bind fun t384 => (if t384 = true then (some false) else (impl_SamplesOK.l0 k l0 l0 (l0.length : Int) 0))) = some r := h
 clear h
 replace H := Option.bind_eq_some_iff.mp H
 obtain ⟨t384,A20,H⟩ := H
 try dsimp only at H
 have A2 := Aside0.mk A20
 clear A20
 by_cases c3 : t384 = true
 ·subst c3
  rw [if_pos rfl] at H
  obtain rfl := Option.some.inj H
  go_enter Tryz.func50,Tryz.ntmps50
  go_wp2_with (first | (go_at_call 69; (with_reducible refine (impl_Sample.calls _ _ l0 true _ ?side1 ?side2 A2.out).mono ?_); (case side1 => repeat (first | exact HR0.out | (with_reducible refine Kd.C_alloc ?_ _) | (with_reducible refine Kd.C_drewN ?_ _) | (with_reducible refine Kd.C_drew ?_))); (case side2 => exact HC0.out); rintro e w' ⟨rfl,⟨nd,rfl⟩⟩; (try first | exact ⟨rfl,_,World.drewN_drewN _ _ _⟩ | exact ⟨rfl,_,Eq.trans (World.drewN_drewN _ _ _) (congrArg (World.drewN _) (Nat.add_assoc _ _ _))⟩)))
  repeat (go_quiet (first | (go_at_call 69; (with_reducible refine (impl_Sample.calls _ _ l0 true _ ?side1 ?side2 A2.out).mono ?_); (case side1 => repeat (first | exact HR0.out | (with_reducible refine Kd.C_alloc ?_ _) | (with_reducible refine Kd.C_drewN ?_ _) | (with_reducible refine Kd.C_drew ?_))); (case side2 => exact HC0.out); rintro e w' ⟨rfl,⟨nd,rfl⟩⟩; (try first | exact ⟨rfl,_,World.drewN_drewN _ _ _⟩ | exact ⟨rfl,_,Eq.trans (World.drewN_drewN _ _ _) (congrArg (World.drewN _) (Nat.add_assoc _ _ _))⟩))); try go_wp2_with (first | (go_at_call 69; (with_reducible refine (impl_Sample.calls _ _ l0 true _ ?side1 ?side2 A2.out).mono ?_); (case side1 => repeat (first | exact HR0.out | (with_reducible refine Kd.C_alloc ?_ _) | (with_reducible refine Kd.C_drewN ?_ _) | (with_reducible refine Kd.C_drew ?_))); (case side2 => exact HC0.out); rintro e w' ⟨rfl,⟨nd,rfl⟩⟩; (try first | exact ⟨rfl,_,World.drewN_drewN _ _ _⟩ | exact ⟨rfl,_,Eq.trans (World.drewN_drewN _ _ _) (congrArg (World.drewN _) (Nat.add_assoc _ _ _))⟩))))
  go_ret
  exact ⟨by first | rfl | (simp only [i64_w,i32_w] <;> rfl) | (simp [errW_none,errW_some] <;> rfl) | (simp [*,errW_none,errW_some] <;> rfl),bA⟩
 ·replace c3 := Bool.eq_false_iff.mpr c3
  subst c3
  rw [if_neg (show ¬ (false = true) by decide)] at H
  have H' := Aside0.mk H
  clear H
  go_enter Tryz.func50,Tryz.ntmps50
  go_wp2_with (first | (go_at_call 69; (with_reducible refine (impl_Sample.calls _ _ l0 false _ ?side1 ?side2 A2.out).mono ?_); (case side1 => repeat (first | exact HR0.out | (with_reducible refine Kd.C_alloc ?_ _) | (with_reducible refine Kd.C_drewN ?_ _) | (with_reducible refine Kd.C_drew ?_))); (case side2 => exact HC0.out); rintro e w' ⟨rfl,⟨nd,rfl⟩⟩; (try first | exact ⟨rfl,_,World.drewN_drewN _ _ _⟩ | exact ⟨rfl,_,Eq.trans (World.drewN_drewN _ _ _) (congrArg (World.drewN _) (Nat.add_assoc _ _ _))⟩)))
  repeat (go_quiet (first | (go_at_call 69; (with_reducible refine (impl_Sample.calls _ _ l0 false _ ?side1 ?side2 A2.out).mono ?_); (case side1 => repeat (first | exact HR0.out | (with_reducible refine Kd.C_alloc ?_ _) | (with_reducible refine Kd.C_drewN ?_ _) | (with_reducible refine Kd.C_drew ?_))); (case side2 => exact HC0.out); rintro e w' ⟨rfl,⟨nd,rfl⟩⟩; (try first | exact ⟨rfl,_,World.drewN_drewN _ _ _⟩ | exact ⟨rfl,_,Eq.trans (World.drewN_drewN _ _ _) (congrArg (World.drewN _) (Nat.add_assoc _ _ _))⟩))); try go_wp2_with (first | (go_at_call 69; (with_reducible refine (impl_Sample.calls _ _ l0 false _ ?side1 ?side2 A2.out).mono ?_); (case side1 => repeat (first | exact HR0.out | (with_reducible refine Kd.C_alloc ?_ _) | (with_reducible refine Kd.C_drewN ?_ _) | (with_reducible refine Kd.C_drew ?_))); (case side2 => exact HC0.out); rintro e w' ⟨rfl,⟨nd,rfl⟩⟩; (try first | exact ⟨rfl,_,World.drewN_drewN _ _ _⟩ | exact ⟨rfl,_,Eq.trans (World.drewN_drewN _ _ _) (congrArg (World.drewN _) (Nat.add_assoc _ _ _))⟩))))
  go_loopg [9] k (fun kq v9 w' => ∃ (x9_1 : Int),v9 = .int .i64 x9_1 ∧ Aside0 (impl_SamplesOK.l0 kq l0 l0 (l0.length : Int) x9_1 = some r) ∧ Aside0 (kq ≤ k) ∧ Aside0 (Below w.heap.size w w'))
  case atStart => exact ⟨(0),(by first | rfl | (simp; done) | (simp [*]; done)),H',⟨Nat.le_refl _⟩,⟨bA⟩⟩
  case round =>
   clear H'
   try clear p2
   try clear c3
   obtain ⟨x9_1,rfl,HA,HK1,HB⟩ := hrel
   cases gk with
   | zero => exact absurd HA.out (by simp [impl_SamplesOK.l0])
   | succ k1 =>
    have H := HA.out
    clear HA
    simp only [impl_SamplesOK.l0] at H
    by_cases c4 : x9_1 < (l0.length : Int)
    ·rw [if_pos c4] at H
     have c4b0 : decide (x9_1 < (l0.length : Int)) = true := decide_eq_true c4
     clear c4
     by_cases c5 : 0 ≤ x9_1
     ·rw [if_pos c5] at H
      have c5b0 : decide (0 ≤ x9_1) = true := decide_eq_true c5
      clear c5
      by_cases c6 : x9_1 < (l0.length : Int)
      ·rw [if_pos c6] at H
       have c6b0 : decide (x9_1 < (l0.length : Int)) = true := decide_eq_true c6
       clear c6
       have HC7 := Aside0.mk H
       clear H
       have p385 : 0 ≤ (x9_1 : Int) := od
       have q385 : x9_1 < (l0.length : Int) := od
       obtain ⟨ad385,e385,hx385_0,hx385_1⟩ := at_T49 HR0.out x9_1 p385 q385
       cases e385
       replace hx385_0 := cb HB.out hx385_0
       replace hx385_1 := cb HB.out hx385_1
       replace p385 := eq_true p385
       replace q385 := eq_true q385
       go_upto_region 6 with (first | ((with_reducible refine gate_dst (N:=4) rfl ?_); refine box_event ?hg (N:=4) ?hd (cs := #[.int .i64 0,.int .i64 0]) (t:=49) ?hr ?_; (case hd => rfl); (case hg => rfl); (case hr => first | (go_simp; done) | (go_simp; rfl)); intro gb386 hg w8 hbox hb; have n0_ := Aside0.mk (below_step bA hb); have n1_ := Aside0.mk (hbox); have n2_ := Aside0.mk ((gw hg : w.heap.size ≤ gb386)); have n3_ := Aside0.mk ((gw hg : w.heap.size ≤ gb386)); clear HB; have HB := n0_; have BK386 := n1_; have GW386 := n2_; have GE386 := n3_; clear n0_ n1_ n2_ n3_; clear hb hbox hg; have hcz9_0 : w8.cell? ⟨gb386,0,none⟩ = some (.int .i64 0) := (blk_cell BK386.out 0).trans rfl; have hcz9_1 : w8.cell? ⟨gb386,1,none⟩ = some (.int .i64 0) := (blk_cell BK386.out 1).trans rfl; have hfz9_0 := blk_frozen BK386.out 0; have hfz9_1 := blk_frozen BK386.out 1))
       repeat (go_quiet (first | ((with_reducible refine gate_dst (N:=4) rfl ?_); refine box_event ?hg (N:=4) ?hd (cs := #[.int .i64 0,.int .i64 0]) (t:=49) ?hr ?_; (case hd => rfl); (case hg => rfl); (case hr => first | (go_simp; done) | (go_simp; rfl)); intro gb386 hg w8 hbox hb; have n0_ := Aside0.mk (below_step bA hb); have n1_ := Aside0.mk (hbox); have n2_ := Aside0.mk ((gw hg : w.heap.size ≤ gb386)); have n3_ := Aside0.mk ((gw hg : w.heap.size ≤ gb386)); clear HB; have HB := n0_; have BK386 := n1_; have GW386 := n2_; have GE386 := n3_; clear n0_ n1_ n2_ n3_; clear hb hbox hg; have hcz9_0 : w8.cell? ⟨gb386,0,none⟩ = some (.int .i64 0) := (blk_cell BK386.out 0).trans rfl; have hcz9_1 : w8.cell? ⟨gb386,1,none⟩ = some (.int .i64 0) := (blk_cell BK386.out 1).trans rfl; have hfz9_0 := blk_frozen BK386.out 0; have hfz9_1 := blk_frozen BK386.out 1)); go_upto_region 6 with (first | ((with_reducible refine gate_dst (N:=4) rfl ?_); refine box_event ?hg (N:=4) ?hd (cs := #[.int .i64 0,.int .i64 0]) (t:=49) ?hr ?_; (case hd => rfl); (case hg => rfl); (case hr => first | (go_simp; done) | (go_simp; rfl)); intro gb386 hg w8 hbox hb; have n0_ := Aside0.mk (below_step bA hb); have n1_ := Aside0.mk (hbox); have n2_ := Aside0.mk ((gw hg : w.heap.size ≤ gb386)); have n3_ := Aside0.mk ((gw hg : w.heap.size ≤ gb386)); clear HB; have HB := n0_; have BK386 := n1_; have GW386 := n2_; have GE386 := n3_; clear n0_ n1_ n2_ n3_; clear hb hbox hg; have hcz9_0 : w8.cell? ⟨gb386,0,none⟩ = some (.int .i64 0) := (blk_cell BK386.out 0).trans rfl; have hcz9_1 : w8.cell? ⟨gb386,1,none⟩ = some (.int .i64 0) := (blk_cell BK386.out 1).trans rfl; have hfz9_0 := blk_frozen BK386.out 0; have hfz9_1 := blk_frozen BK386.out 1)))
       (try simp only [Act.put,setIfInBounds_toArray,set_cons_zero,set_cons_succ])
       go_cut [38] (fun v38 wc => ∃ (kq : Nat) (x38_6 : Bool),v38 = .bool x38_6 ∧ Aside0 (impl_SamplesOK.j1 kq l0 l0 (l0.length : Int) x9_1 x38_6 = some r) ∧ Aside0 (kq ≤ k1) ∧ Aside0 (wc.heap[gb386]? = some (.cells #[.int .i64 ((rd_T49 l0 x9_1).f0),.int .i64 ((rd_T49 l0 x9_1).f1)] 49 (0,0))) ∧ Aside0 (Below w.heap.size w wc))
       case first =>
        have H := HC7.out
        clear HC7
        replace H := Option.bind_eq_some_iff.mp H
        obtain ⟨t387,A100,H⟩ := H
        try dsimp only at H
        have A10 := Aside0.mk A100
        clear A100
        by_cases c11 : t387 = true
        ·subst c11
         rw [if_pos rfl] at H
         replace H := Option.bind_eq_some_iff.mp H
         obtain ⟨t388,A120,H⟩ := H
         try dsimp only at H
         have A12 := Aside0.mk A120
         clear A120
         by_cases c13 : t388 = true
         ·subst c13
          rw [if_pos rfl] at H
          by_cases c14 : x9_1 > 0
          ·rw [if_pos c14] at H
           have c14b0 : decide (0 < x9_1) = true := decide_eq_true c14
           clear c14
           (first | rw [c14b0] | (simp only [i64_w,i32_w]; rw [c14b0]) | skip)
           obtain ⟨ji15,hji15⟩ : ∃ j_ : Int,(wrap64 (x9_1 - 1)) = j_ := ⟨_,rfl⟩
           replace H : (if 0 ≤ (ji15) then (if (ji15) < (l0.length : Int) then (impl_SamplesOK.j1 k1 l0 l0 (l0.length : Int) x9_1 (decide (((rd_T49 l0 x9_1).f0) ≤ ((rd_T49 l0 (ji15)).f0)))) else (none)) else (none)) = some r := by first | (rw [hji15] at H; exact H) | (simp only [hji15] at H ⊢; exact H)
           (try rw [hji15] at A10)
           (try rw [hji15] at A12)
           have hji15w : (IntKind.i64.wrap (x9_1 - 1)) = ji15 := (i64_w _).trans hji15
           by_cases c16 : 0 ≤ (ji15)
           ·rw [if_pos c16] at H
            have c16b0 : decide (0 ≤ (ji15)) = true := decide_eq_true c16
            clear c16
            by_cases c17 : (ji15) < (l0.length : Int)
            ·rw [if_pos c17] at H
             have c17b0 : decide ((ji15) < (l0.length : Int)) = true := decide_eq_true c17
             clear c17
             have H' := Aside0.mk H
             clear H
             have hcz18_0 : w8.cell? ⟨gb386,0,none⟩ = some (.int .i64 0) := (blk_cell BK386.out 0).trans rfl
             have hcz18_1 : w8.cell? ⟨gb386,1,none⟩ = some (.int .i64 0) := (blk_cell BK386.out 1).trans rfl
             have hfz18_0 := blk_frozen BK386.out 0
             have hfz18_1 := blk_frozen BK386.out 1
             go_wp2_with (first | (go_at_call 70; (with_reducible refine (impl_isMoment.calls ((rd_T49 l0 x9_1).f0) true _ A10.out).mono ?_); rintro e w' ⟨rfl,⟨nd,rfl⟩⟩; (try first | exact ⟨rfl,_,World.drewN_drewN _ _ _⟩ | exact ⟨rfl,_,Eq.trans (World.drewN_drewN _ _ _) (congrArg (World.drewN _) (Nat.add_assoc _ _ _))⟩)) | (go_at_call 71; (with_reducible refine (impl_isValue.calls ((rd_T49 l0 x9_1).f1) true _ A12.out).mono ?_); rintro e w' ⟨rfl,⟨nd,rfl⟩⟩; (try first | exact ⟨rfl,_,World.drewN_drewN _ _ _⟩ | exact ⟨rfl,_,Eq.trans (World.drewN_drewN _ _ _) (congrArg (World.drewN _) (Nat.add_assoc _ _ _))⟩); have p389 : 0 ≤ ((ji15) : Int) := od; have q389 : (ji15) < (l0.length : Int) := od; obtain ⟨ad389,e389,hx389_0,hx389_1⟩ := at_T49 HR0.out (ji15) p389 q389; obtain rfl : ad385 = ad389 := (by injection e389); have hn389_0 : ad385.block ≠ gb386 := Nat.ne_of_lt (Nat.lt_of_lt_of_le (by have := World.block_lt_of_cell? _ _ hx389_0; first | rwa [add_block] at this | exact this) GW386.out); have hn389_1 : ad385.block ≠ gb386 := Nat.ne_of_lt (Nat.lt_of_lt_of_le (by have := World.block_lt_of_cell? _ _ hx389_0; first | rwa [add_block] at this | exact this) GW386.out); replace hx389_0 := cb HB.out hx389_0; replace hx389_1 := cb HB.out hx389_1; replace hx389_0 := (cell_far (p:=⟨gb386,0,none⟩) (by first | (rw [add_block]; exact hn389_0) | (show (Addr.add _ _).block ≠ _; rw [add_block]; exact hn389_0) | exact hn389_0) (.int .i64 ((rd_T49 l0 x9_1).f0))).trans hx389_0; replace hx389_1 := (cell_far (p:=⟨gb386,0,none⟩) (by first | (rw [add_block]; exact hn389_0) | (show (Addr.add _ _).block ≠ _; rw [add_block]; exact hn389_0) | exact hn389_0) (.int .i64 ((rd_T49 l0 x9_1).f0))).trans hx389_1; replace hx389_0 := (cell_far (p:=⟨gb386,1,none⟩) (by first | (rw [add_block]; exact hn389_1) | (show (Addr.add _ _).block ≠ _; rw [add_block]; exact hn389_1) | exact hn389_1) (.int .i64 ((rd_T49 l0 x9_1).f1))).trans hx389_0; replace hx389_1 := (cell_far (p:=⟨gb386,1,none⟩) (by first | (rw [add_block]; exact hn389_1) | (show (Addr.add _ _).block ≠ _; rw [add_block]; exact hn389_1) | exact hn389_1) (.int .i64 ((rd_T49 l0 x9_1).f1))).trans hx389_1; (try have hy389_0 := fun (n_ : Nat) => (show ((((w8.drewN n_).setCell ⟨gb386,0,none⟩ (.int .i64 ((rd_T49 l0 x9_1).f0))).setCell ⟨gb386,1,none⟩ (.int .i64 ((rd_T49 l0 x9_1).f1)))).cell? _ = some _ from hx389_0)); (try have hy389_1 := fun (n_ : Nat) => (show ((((w8.drewN n_).setCell ⟨gb386,0,none⟩ (.int .i64 ((rd_T49 l0 x9_1).f0))).setCell ⟨gb386,1,none⟩ (.int .i64 ((rd_T49 l0 x9_1).f1)))).cell? _ = some _ from hx389_1)); clear hn389_0; clear hn389_1; replace p389 := eq_true p389; replace q389 := eq_true q389))
             repeat (go_quiet (first | (go_at_call 70; (with_reducible refine (impl_isMoment.calls ((rd_T49 l0 x9_1).f0) true _ A10.out).mono ?_); rintro e w' ⟨rfl,⟨nd,rfl⟩⟩; (try first | exact ⟨rfl,_,World.drewN_drewN _ _ _⟩ | exact ⟨rfl,_,Eq.trans (World.drewN_drewN _ _ _) (congrArg (World.drewN _) (Nat.add_assoc _ _ _))⟩)) | (go_at_call 71; (with_reducible refine (impl_isValue.calls ((rd_T49 l0 x9_1).f1) true _ A12.out).mono ?_); rintro e w' ⟨rfl,⟨nd,rfl⟩⟩; (try first | exact ⟨rfl,_,World.drewN_drewN _ _ _⟩ | exact ⟨rfl,_,Eq.trans (World.drewN_drewN _ _ _) (congrArg (World.drewN _) (Nat.add_assoc _ _ _))⟩); have p389 : 0 ≤ ((ji15) : Int) := od; have q389 : (ji15) < (l0.length : Int) := od; obtain ⟨ad389,e389,hx389_0,hx389_1⟩ := at_T49 HR0.out (ji15) p389 q389; obtain rfl : ad385 = ad389 := (by injection e389); have hn389_0 : ad385.block ≠ gb386 := Nat.ne_of_lt (Nat.lt_of_lt_of_le (by have := World.block_lt_of_cell? _ _ hx389_0; first | rwa [add_block] at this | exact this) GW386.out); have hn389_1 : ad385.block ≠ gb386 := Nat.ne_of_lt (Nat.lt_of_lt_of_le (by have := World.block_lt_of_cell? _ _ hx389_0; first | rwa [add_block] at this | exact this) GW386.out); replace hx389_0 := cb HB.out hx389_0; replace hx389_1 := cb HB.out hx389_1; replace hx389_0 := (cell_far (p:=⟨gb386,0,none⟩) (by first | (rw [add_block]; exact hn389_0) | (show (Addr.add _ _).block ≠ _; rw [add_block]; exact hn389_0) | exact hn389_0) (.int .i64 ((rd_T49 l0 x9_1).f0))).trans hx389_0; replace hx389_1 := (cell_far (p:=⟨gb386,0,none⟩) (by first | (rw [add_block]; exact hn389_0) | (show (Addr.add _ _).block ≠ _; rw [add_block]; exact hn389_0) | exact hn389_0) (.int .i64 ((rd_T49 l0 x9_1).f0))).trans hx389_1; replace hx389_0 := (cell_far (p:=⟨gb386,1,none⟩) (by first | (rw [add_block]; exact hn389_1) | (show (Addr.add _ _).block ≠ _; rw [add_block]; exact hn389_1) | exact hn389_1) (.int .i64 ((rd_T49 l0 x9_1).f1))).trans hx389_0; replace hx389_1 := (cell_far (p:=⟨gb386,1,none⟩) (by first | (rw [add_block]; exact hn389_1) | (show (Addr.add _ _).block ≠ _; rw [add_block]; exact hn389_1) | exact hn389_1) (.int .i64 ((rd_T49 l0 x9_1).f1))).trans hx389_1; (try have hy389_0 := fun (n_ : Nat) => (show ((((w8.drewN n_).setCell ⟨gb386,0,none⟩ (.int .i64 ((rd_T49 l0 x9_1).f0))).setCell ⟨gb386,1,none⟩ (.int .i64 ((rd_T49 l0 x9_1).f1)))).cell? _ = some _ from hx389_0)); (try have hy389_1 := fun (n_ : Nat) => (show ((((w8.drewN n_).setCell ⟨gb386,0,none⟩ (.int .i64 ((rd_T49 l0 x9_1).f0))).setCell ⟨gb386,1,none⟩ (.int .i64 ((rd_T49 l0 x9_1).f1)))).cell? _ = some _ from hx389_1)); clear hn389_0; clear hn389_1; replace p389 := eq_true p389; replace q389 := eq_true q389)); try go_wp2_with (first | (go_at_call 70; (with_reducible refine (impl_isMoment.calls ((rd_T49 l0 x9_1).f0) true _ A10.out).mono ?_); rintro e w' ⟨rfl,⟨nd,rfl⟩⟩; (try first | exact ⟨rfl,_,World.drewN_drewN _ _ _⟩ | exact ⟨rfl,_,Eq.trans (World.drewN_drewN _ _ _) (congrArg (World.drewN _) (Nat.add_assoc _ _ _))⟩)) | (go_at_call 71; (with_reducible refine (impl_isValue.calls ((rd_T49 l0 x9_1).f1) true _ A12.out).mono ?_); rintro e w' ⟨rfl,⟨nd,rfl⟩⟩; (try first | exact ⟨rfl,_,World.drewN_drewN _ _ _⟩ | exact ⟨rfl,_,Eq.trans (World.drewN_drewN _ _ _) (congrArg (World.drewN _) (Nat.add_assoc _ _ _))⟩); have p389 : 0 ≤ ((ji15) : Int) := od; have q389 : (ji15) < (l0.length : Int) := od; obtain ⟨ad389,e389,hx389_0,hx389_1⟩ := at_T49 HR0.out (ji15) p389 q389; obtain rfl : ad385 = ad389 := (by injection e389); have hn389_0 : ad385.block ≠ gb386 := Nat.ne_of_lt (Nat.lt_of_lt_of_le (by have := World.block_lt_of_cell? _ _ hx389_0; first | rwa [add_block] at this | exact this) GW386.out); have hn389_1 : ad385.block ≠ gb386 := Nat.ne_of_lt (Nat.lt_of_lt_of_le (by have := World.block_lt_of_cell? _ _ hx389_0; first | rwa [add_block] at this | exact this) GW386.out); replace hx389_0 := cb HB.out hx389_0; replace hx389_1 := cb HB.out hx389_1; replace hx389_0 := (cell_far (p:=⟨gb386,0,none⟩) (by first | (rw [add_block]; exact hn389_0) | (show (Addr.add _ _).block ≠ _; rw [add_block]; exact hn389_0) | exact hn389_0) (.int .i64 ((rd_T49 l0 x9_1).f0))).trans hx389_0; replace hx389_1 := (cell_far (p:=⟨gb386,0,none⟩) (by first | (rw [add_block]; exact hn389_0) | (show (Addr.add _ _).block ≠ _; rw [add_block]; exact hn389_0) | exact hn389_0) (.int .i64 ((rd_T49 l0 x9_1).f0))).trans hx389_1; replace hx389_0 := (cell_far (p:=⟨gb386,1,none⟩) (by first | (rw [add_block]; exact hn389_1) | (show (Addr.add _ _).block ≠ _; rw [add_block]; exact hn389_1) | exact hn389_1) (.int .i64 ((rd_T49 l0 x9_1).f1))).trans hx389_0; replace hx389_1 := (cell_far (p:=⟨gb386,1,none⟩) (by first | (rw [add_block]; exact hn389_1) | (show (Addr.add _ _).block ≠ _; rw [add_block]; exact hn389_1) | exact hn389_1) (.int .i64 ((rd_T49 l0 x9_1).f1))).trans hx389_1; (try have hy389_0 := fun (n_ : Nat) => (show ((((w8.drewN n_).setCell ⟨gb386,0,none⟩ (.int .i64 ((rd_T49 l0 x9_1).f0))).setCell ⟨gb386,1,none⟩ (.int .i64 ((rd_T49 l0 x9_1).f1)))).cell? _ = some _ from hx389_0)); (try have hy389_1 := fun (n_ : Nat) => (show ((((w8.drewN n_).setCell ⟨gb386,0,none⟩ (.int .i64 ((rd_T49 l0 x9_1).f0))).setCell ⟨gb386,1,none⟩ (.int .i64 ((rd_T49 l0 x9_1).f1)))).cell? _ = some _ from hx389_1)); clear hn389_0; clear hn389_1; replace p389 := eq_true p389; replace q389 := eq_true q389)))
             go_meet
             case rel => exact ⟨_,(decide (((rd_T49 l0 x9_1).f0) ≤ ((rd_T49 l0 (ji15)).f0))),(by first | rfl | (simp; done) | (simp only [← hji15] <;> (first | rfl | simp)) | (simp [*]; done)),H',⟨by have := HK1.out; first | omega | exact Nat.le_refl _⟩,⟨by (with_reducible repeat (first | refine blk_drewN ?_ _ | refine blk_drew ?_ | refine blk_alloc ?_ _)); apply blkp2; (with_reducible repeat (first | refine blk_drewN ?_ _ | refine blk_drew ?_ | refine blk_alloc ?_ _)); exact BK386.out⟩,⟨bA⟩⟩
            ·rw [if_neg c17] at H
             exact absurd H (by simp)
           ·rw [if_neg c16] at H
            exact absurd H (by simp)
          ·rw [if_neg c14] at H
           have c14b0 : decide (0 < x9_1) = false := decide_eq_false c14
           clear c14
           (first | rw [c14b0] | (simp only [i64_w,i32_w]; rw [c14b0]) | skip)
           have H' := Aside0.mk H
           clear H
           have hcz19_0 : w8.cell? ⟨gb386,0,none⟩ = some (.int .i64 0) := (blk_cell BK386.out 0).trans rfl
           have hcz19_1 : w8.cell? ⟨gb386,1,none⟩ = some (.int .i64 0) := (blk_cell BK386.out 1).trans rfl
           have hfz19_0 := blk_frozen BK386.out 0
           have hfz19_1 := blk_frozen BK386.out 1
           go_wp2_with (first | (go_at_call 70; (with_reducible refine (impl_isMoment.calls ((rd_T49 l0 x9_1).f0) true _ A10.out).mono ?_); rintro e w' ⟨rfl,⟨nd,rfl⟩⟩; (try first | exact ⟨rfl,_,World.drewN_drewN _ _ _⟩ | exact ⟨rfl,_,Eq.trans (World.drewN_drewN _ _ _) (congrArg (World.drewN _) (Nat.add_assoc _ _ _))⟩)) | (go_at_call 71; (with_reducible refine (impl_isValue.calls ((rd_T49 l0 x9_1).f1) true _ A12.out).mono ?_); rintro e w' ⟨rfl,⟨nd,rfl⟩⟩; (try first | exact ⟨rfl,_,World.drewN_drewN _ _ _⟩ | exact ⟨rfl,_,Eq.trans (World.drewN_drewN _ _ _) (congrArg (World.drewN _) (Nat.add_assoc _ _ _))⟩)))
           repeat (go_quiet (first | (go_at_call 70; (with_reducible refine (impl_isMoment.calls ((rd_T49 l0 x9_1).f0) true _ A10.out).mono ?_); rintro e w' ⟨rfl,⟨nd,rfl⟩⟩; (try first | exact ⟨rfl,_,World.drewN_drewN _ _ _⟩ | exact ⟨rfl,_,Eq.trans (World.drewN_drewN _ _ _) (congrArg (World.drewN _) (Nat.add_assoc _ _ _))⟩)) | (go_at_call 71; (with_reducible refine (impl_isValue.calls ((rd_T49 l0 x9_1).f1) true _ A12.out).mono ?_); rintro e w' ⟨rfl,⟨nd,rfl⟩⟩; (try first | exact ⟨rfl,_,World.drewN_drewN _ _ _⟩ | exact ⟨rfl,_,Eq.trans (World.drewN_drewN _ _ _) (congrArg (World.drewN _) (Nat.add_assoc _ _ _))⟩))); try go_wp2_with (first | (go_at_call 70; (with_reducible refine (impl_isMoment.calls ((rd_T49 l0 x9_1).f0) true _ A10.out).mono ?_); rintro e w' ⟨rfl,⟨nd,rfl⟩⟩; (try first | exact ⟨rfl,_,World.drewN_drewN _ _ _⟩ | exact ⟨rfl,_,Eq.trans (World.drewN_drewN _ _ _) (congrArg (World.drewN _) (Nat.add_assoc _ _ _))⟩)) | (go_at_call 71; (with_reducible refine (impl_isValue.calls ((rd_T49 l0 x9_1).f1) true _ A12.out).mono ?_); rintro e w' ⟨rfl,⟨nd,rfl⟩⟩; (try first | exact ⟨rfl,_,World.drewN_drewN _ _ _⟩ | exact ⟨rfl,_,Eq.trans (World.drewN_drewN _ _ _) (congrArg (World.drewN _) (Nat.add_assoc _ _ _))⟩))))
           go_meet
           case rel => exact ⟨_,(false),(by first | rfl | (simp; done) | (simp [*]; done)),H',⟨by have := HK1.out; first | omega | exact Nat.le_refl _⟩,⟨by (with_reducible repeat (first | refine blk_drewN ?_ _ | refine blk_drew ?_ | refine blk_alloc ?_ _)); apply blkp2; (with_reducible repeat (first | refine blk_drewN ?_ _ | refine blk_drew ?_ | refine blk_alloc ?_ _)); exact BK386.out⟩,⟨bA⟩⟩
         ·replace c13 := Bool.eq_false_iff.mpr c13
          subst c13
          rw [if_neg (show ¬ (false = true) by decide)] at H
          have H' := Aside0.mk H
          clear H
          have hcz20_0 : w8.cell? ⟨gb386,0,none⟩ = some (.int .i64 0) := (blk_cell BK386.out 0).trans rfl
          have hcz20_1 : w8.cell? ⟨gb386,1,none⟩ = some (.int .i64 0) := (blk_cell BK386.out 1).trans rfl
          have hfz20_0 := blk_frozen BK386.out 0
          have hfz20_1 := blk_frozen BK386.out 1
          go_wp2_with (first | (go_at_call 70; (with_reducible refine (impl_isMoment.calls ((rd_T49 l0 x9_1).f0) true _ A10.out).mono ?_); rintro e w' ⟨rfl,⟨nd,rfl⟩⟩; (try first | exact ⟨rfl,_,World.drewN_drewN _ _ _⟩ | exact ⟨rfl,_,Eq.trans (World.drewN_drewN _ _ _) (congrArg (World.drewN _) (Nat.add_assoc _ _ _))⟩)) | (go_at_call 71; (with_reducible refine (impl_isValue.calls ((rd_T49 l0 x9_1).f1) false _ A12.out).mono ?_); rintro e w' ⟨rfl,⟨nd,rfl⟩⟩; (try first | exact ⟨rfl,_,World.drewN_drewN _ _ _⟩ | exact ⟨rfl,_,Eq.trans (World.drewN_drewN _ _ _) (congrArg (World.drewN _) (Nat.add_assoc _ _ _))⟩)))
          repeat (go_quiet (first | (go_at_call 70; (with_reducible refine (impl_isMoment.calls ((rd_T49 l0 x9_1).f0) true _ A10.out).mono ?_); rintro e w' ⟨rfl,⟨nd,rfl⟩⟩; (try first | exact ⟨rfl,_,World.drewN_drewN _ _ _⟩ | exact ⟨rfl,_,Eq.trans (World.drewN_drewN _ _ _) (congrArg (World.drewN _) (Nat.add_assoc _ _ _))⟩)) | (go_at_call 71; (with_reducible refine (impl_isValue.calls ((rd_T49 l0 x9_1).f1) false _ A12.out).mono ?_); rintro e w' ⟨rfl,⟨nd,rfl⟩⟩; (try first | exact ⟨rfl,_,World.drewN_drewN _ _ _⟩ | exact ⟨rfl,_,Eq.trans (World.drewN_drewN _ _ _) (congrArg (World.drewN _) (Nat.add_assoc _ _ _))⟩))); try go_wp2_with (first | (go_at_call 70; (with_reducible refine (impl_isMoment.calls ((rd_T49 l0 x9_1).f0) true _ A10.out).mono ?_); rintro e w' ⟨rfl,⟨nd,rfl⟩⟩; (try first | exact ⟨rfl,_,World.drewN_drewN _ _ _⟩ | exact ⟨rfl,_,Eq.trans (World.drewN_drewN _ _ _) (congrArg (World.drewN _) (Nat.add_assoc _ _ _))⟩)) | (go_at_call 71; (with_reducible refine (impl_isValue.calls ((rd_T49 l0 x9_1).f1) false _ A12.out).mono ?_); rintro e w' ⟨rfl,⟨nd,rfl⟩⟩; (try first | exact ⟨rfl,_,World.drewN_drewN _ _ _⟩ | exact ⟨rfl,_,Eq.trans (World.drewN_drewN _ _ _) (congrArg (World.drewN _) (Nat.add_assoc _ _ _))⟩))))
          go_meet
          case rel => exact ⟨_,(true),(by first | rfl | (simp; done) | (simp [*]; done)),H',⟨by have := HK1.out; first | omega | exact Nat.le_refl _⟩,⟨by (with_reducible repeat (first | refine blk_drewN ?_ _ | refine blk_drew ?_ | refine blk_alloc ?_ _)); apply blkp2; (with_reducible repeat (first | refine blk_drewN ?_ _ | refine blk_drew ?_ | refine blk_alloc ?_ _)); exact BK386.out⟩,⟨bA⟩⟩
        ·replace c11 := Bool.eq_false_iff.mpr c11
         subst c11
         rw [if_neg (show ¬ (false = true) by decide)] at H
         have H' := Aside0.mk H
         clear H
         have hcz21_0 : w8.cell? ⟨gb386,0,none⟩ = some (.int .i64 0) := (blk_cell BK386.out 0).trans rfl
         have hcz21_1 : w8.cell? ⟨gb386,1,none⟩ = some (.int .i64 0) := (blk_cell BK386.out 1).trans rfl
         have hfz21_0 := blk_frozen BK386.out 0
         have hfz21_1 := blk_frozen BK386.out 1
         go_wp2_with (first | (go_at_call 70; (with_reducible refine (impl_isMoment.calls ((rd_T49 l0 x9_1).f0) false _ A10.out).mono ?_); rintro e w' ⟨rfl,⟨nd,rfl⟩⟩; (try first | exact ⟨rfl,_,World.drewN_drewN _ _ _⟩ | exact ⟨rfl,_,Eq.trans (World.drewN_drewN _ _ _) (congrArg (World.drewN _) (Nat.add_assoc _ _ _))⟩)))
         repeat (go_quiet (first | (go_at_call 70; (with_reducible refine (impl_isMoment.calls ((rd_T49 l0 x9_1).f0) false _ A10.out).mono ?_); rintro e w' ⟨rfl,⟨nd,rfl⟩⟩; (try first | exact ⟨rfl,_,World.drewN_drewN _ _ _⟩ | exact ⟨rfl,_,Eq.trans (World.drewN_drewN _ _ _) (congrArg (World.drewN _) (Nat.add_assoc _ _ _))⟩))); try go_wp2_with (first | (go_at_call 70; (with_reducible refine (impl_isMoment.calls ((rd_T49 l0 x9_1).f0) false _ A10.out).mono ?_); rintro e w' ⟨rfl,⟨nd,rfl⟩⟩; (try first | exact ⟨rfl,_,World.drewN_drewN _ _ _⟩ | exact ⟨rfl,_,Eq.trans (World.drewN_drewN _ _ _) (congrArg (World.drewN _) (Nat.add_assoc _ _ _))⟩))))
         go_meet
         case rel => exact ⟨_,(true),(by first | rfl | (simp; done) | (simp [*]; done)),H',⟨by have := HK1.out; first | omega | exact Nat.le_refl _⟩,⟨by (with_reducible repeat (first | refine blk_drewN ?_ _ | refine blk_drew ?_ | refine blk_alloc ?_ _)); apply blkp2; (with_reducible repeat (first | refine blk_drewN ?_ _ | refine blk_drew ?_ | refine blk_alloc ?_ _)); exact BK386.out⟩,⟨bA⟩⟩
       case rest =>
        clear HC7
        try clear c1
        try clear p2
        try clear c3
        try clear p3
        try clear q3
        try clear hx3
        try clear c4
        try clear c4b0
        try clear c5
        try clear c5b0
        try clear c6
        try clear c6b0
        try clear p6
        try clear c11
        try clear c13
        try clear c14
        try clear c14b0
        try clear c16
        try clear c16b0
        try clear c17
        try clear c17b0
        try clear hcz18_0
        try clear hcz18_1
        try clear hcz19_0
        try clear hcz19_1
        try clear hcz20_0
        try clear hcz20_1
        try clear hcz21_0
        try clear hcz21_1
        try clear hcz9_0
        try clear hcz9_1
        try clear hfz18_0
        try clear hfz18_1
        try clear hfz19_0
        try clear hfz19_1
        try clear hfz20_0
        try clear hfz20_1
        try clear hfz21_0
        try clear hfz21_1
        try clear hfz9_0
        try clear hfz9_1
        try clear hx385_0
        try clear hx385_1
        try clear hx389_0
        try clear hx389_1
        try clear p2
        try clear p385
        try clear p389
        try clear q385
        try clear q389
        obtain ⟨kq,x38_6,rfl,HA,HJ6,BK386,HB⟩ := hcut
        cases kq with
        | zero => exact absurd HA.out (by simp [impl_SamplesOK.j1])
        | succ kj6 =>
         have H := HA.out
         clear HA
         simp only [impl_SamplesOK.j1] at H
         by_cases c22 : x38_6 = true
         ·subst c22
          rw [if_pos rfl] at H
          obtain rfl := Option.some.inj H
          go_wp2
          repeat (go_quiet (fail); try go_wp2)
          go_ret
          exact ⟨by first | rfl | (simp only [i64_w,i32_w] <;> rfl) | (simp [errW_none,errW_some] <;> rfl) | (simp [*,errW_none,errW_some] <;> rfl),bA⟩
         ·replace c22 := Bool.eq_false_iff.mpr c22
          subst c22
          rw [if_neg (show ¬ (false = true) by decide)] at H
          have H' := Aside0.mk H
          clear H
          go_wp2
          repeat (go_quiet (fail); try go_wp2)
          go_roundg kj6
          case measure => have := HK1.out; have := HJ6.out; omega
          case rel => exact ⟨(wrap64 (x9_1 + 1)),(by first | rfl | (simp; done) | (simp [*]; done)),H',⟨by have := HK1.out; have := HJ6.out; omega⟩,⟨bA⟩⟩
      ·rw [if_neg c6] at H
       exact absurd H (by simp)
     ·rw [if_neg c5] at H
      exact absurd H (by simp)
    ·rw [if_neg c4] at H
     have c4b0 : decide (x9_1 < (l0.length : Int)) = false := decide_eq_false c4
     clear c4
     obtain rfl := Option.some.inj H
     go_wp2
     repeat (go_quiet (fail); try go_wp2)
     go_ret
     exact ⟨by first | rfl | (simp only [i64_w,i32_w] <;> rfl) | (simp [errW_none,errW_some] <;> rfl) | (simp [*,errW_none,errW_some] <;> rfl),bA⟩

/-! ### impl_readSamples: function 27 -/
def impl_readSamples.l0 : Nat → List (S49) → List ByteArray → Int → Int → Option ((List (S49)) × Bool)
 | 0,_,_,_,_ => none
 | k + 1,x4,x11,x12,x13 => if x13 < x12 then (if 0 ≤ x13 then (if x13 < (x11.length : Int) then ((impl_numbers.f k (rdOf ByteArray.empty x11 x13) (⟨#[61]⟩ : ByteArray) 2).bind fun bt398 => (if bt398.2 = true then (if 0 < (bt398.1.length : Int) then (if 1 < (bt398.1.length : Int) then (if x4.length < 8796093022208 then (impl_readSamples.l0 k (x4 ++ [(⟨rd bt398.1 0,rd bt398.1 1⟩ : S49)]) x11 x12 (wrap64 (x13 + 1))) else (none)) else (none)) else (none)) else (some (([] : List (S49)),false)))) else (none)) else (none)) else ((impl_SamplesOK.f k x4).bind fun t396 => (if t396 = true then (some (x4,decide ((x4.length : Int) ≤ 8))) else (some (x4,false))))
def impl_readSamples.f (k : Nat) (a0 : ByteArray) : Option ((List (S49)) × Bool) := (impl_parts.f a0).bind fun t393 => (impl_readSamples.l0 k (([] : List (S49))) t393 (t393.length : Int) 0)
theorem impl_readSamples.mono_l : ∀ k,(∀ y0 y1 y2 y3,LeO (impl_readSamples.l0 k y0 y1 y2 y3) (impl_readSamples.l0 (k + 1) y0 y1 y2 y3))
 | 0 => fun _ _ _ _ r h => by simp [impl_readSamples.l0] at h
 | k + 1 => by
  have ih0 := impl_readSamples.mono_l k
  ·intro y0 y1 y2 y3
   unfold impl_readSamples.l0
   repeat' first
   | (with_reducible exact ih0 _ _ _ _)
   | (with_reducible exact impl_SamplesOK.mono _ _)
   | (with_reducible exact impl_numbers.mono _ _ _ _)
   | (with_reducible exact LeO.refl _)
   | (with_reducible exact LeO.none _)
   | (with_reducible refine LeO.ite ?_ ?_)
   | (with_reducible refine LeO.bind ?_ (fun _ => ?_))
   | exact ih0 _ _ _ _
   | exact impl_SamplesOK.mono _ _
   | exact impl_numbers.mono _ _ _ _
   | exact LeO.none _
   | refine LeO.ite ?_ ?_
   | refine LeO.bind ?_ (fun _ => ?_)
theorem impl_readSamples.mono : ∀ a0 k,LeO (impl_readSamples.f k a0) (impl_readSamples.f (k + 1) a0) := by
 intro a0 k
 have ih0 := impl_readSamples.mono_l k
 unfold impl_readSamples.f
 repeat' first
   | (with_reducible exact ih0 _ _ _ _)
   | (with_reducible exact impl_SamplesOK.mono _ _)
   | (with_reducible exact impl_numbers.mono _ _ _ _)
   | (with_reducible exact LeO.refl _)
   | (with_reducible exact LeO.none _)
   | (with_reducible refine LeO.ite ?_ ?_)
   | (with_reducible refine LeO.bind ?_ (fun _ => ?_))
   | exact ih0 _ _ _ _
   | exact impl_SamplesOK.mono _ _
   | exact impl_numbers.mono _ _ _ _
   | exact LeO.none _
   | refine LeO.ite ?_ ?_
   | refine LeO.bind ?_ (fun _ => ?_)
def impl_readSamples.T8 : Bool × List (List Nat × List Nat) := (true,[([],[]),([],[]),([1],[1]),([2],[2]),([],[]),([4],[4]),([5],[5]),([3,6],[3,6]),([7],[7]),([0,8],[0,8]),([9,9,0,1,2,3,4,5,6,7,8,9],[0,9])])
def impl_readSamples.B8 : List Nat := [0,0,2,6,0,16,48,126,254,511,1023]
theorem impl_readSamples.tab8 : rtab .any (opsOf Tryz.f27 8) = impl_readSamples.T8 := by kernel_rfl
theorem impl_readSamples.bits8 : waitsOk impl_readSamples.T8.2 impl_readSamples.B8 = true := by kernel_rfl
set_option maxHeartbeats 8000000 in
set_option maxRecDepth 100000 in
theorem impl_readSamples.calls (k : Nat) (a0 : ByteArray) (r1 : List (S49)) (r2 : Bool) (w : World) (hV : Vars w) (h : impl_readSamples.f k a0 = some (r1,r2)) :
  Calls Tryz.prog 27 #[.string a0] w fun e w' => ∃ v0_ : Value,e = .returned (.tuple #[v0_,.bool r2]) ∧ Kd.R k49 49 w' w.heap.size (fun _ => True) v0_ r1 ∧ Below w.heap.size w w' := by
 have hu49 := Tryz.underlying49
 have HV := Aside0.mk hV
 clear hV
 have HB := Aside0.mk (Below.refl w.heap.size w)
 have H : ((impl_parts.f a0).bind fun t393 => (impl_readSamples.l0 k (([] : List (S49))) t393 (t393.length : Int) 0)) = some (r1,r2) := h
 clear h
 obtain ⟨y390,hy390⟩ : ∃ y_ : List (S49),y_ = (([] : List (S49))) := ⟨_,rfl⟩
 replace H : ((impl_parts.f a0).bind fun t393 => (impl_readSamples.l0 k y390 t393 (t393.length : Int) 0)) = some (r1,r2) := by first | (rw [hy390]; with_reducible exact H) | (have H2_ := (Option.bind_some _ _).symm.trans H; rw [hy390]; with_reducible exact H2_) | (have H2_ := (Option.bind_some _ _).symm.trans H; with_reducible exact H2_) | with_reducible exact H | (rw [hy390]; exact H) | exact H
 have Ny390 := Aside0.mk hy390
 clear hy390
 replace H := Option.bind_eq_some_iff.mp H
 obtain ⟨t393,A20,H⟩ := H
 try dsimp only at H
 have A2 := Aside0.mk A20
 clear A20
 have H' := Aside0.mk H
 clear H
 go_enter Tryz.func27,Tryz.ntmps27
 go_wp2_with (first | ((with_reducible refine gate_dst (N:=9) rfl ?_); (try (refine gate_guard (by rfl) ?_; dsimp only)); refine Kd.R_lit k49 _ 49 ?hg (N:=9) ?hd (xs := ([] : List (S49))) (inner := []) (ok := fun _ => True) (okp := fun _ => True) ?hr ?hp (fun _ hk => hk) trivial (Below.refl _ _) (Nat.le_refl _) (by simp) ?_; (case hd => rfl); (case hg => rfl); (case hr => first | (go_simp; done) | (go_simp; rfl)); (case hp => exact (Reps.none _ _)); intro v391 w3 ho4 hb hg_ hnew_; clear hg_ hnew_; (first | rw [← Ny390.out] at ho4 | (simp only [Int.reduceToNat] at ho4; rw [← Ny390.out] at ho4)); have n0_ := Aside0.mk (Kd.R_lower ho4 (below_size bA)); have n1_ := Aside0.mk (below_step bA hb); clear HB; have HO392 := n0_; have HB := n1_; clear n0_ n1_; clear hb ho4) | ((with_reducible refine gate_callee (f:=48) rfl ?_); refine goesL_ (some 11) rfl rfl Tryz.func48 (by kernel_rfl) rfl #[.string a0] rfl mA ?_; (with_reducible refine (impl_parts.calls a0 t393 _ ?side1 A2.out).mono ?_); (case side1 => exact HV.out.below bA); rintro e w5 ⟨v394,rfl,ho0,hb⟩; refine ⟨_,rfl,?_⟩; have n0_ := Aside0.mk (Kd.R_below (rA HO392.out) hb); have n1_ := Aside0.mk (Kd.R_lower ho0 (below_size bA)); have n2_ := Aside0.mk (below_step bA hb); clear HO392; clear HB; have HO392 := n0_; have HO395 := n1_; have HB := n2_; clear n0_ n1_ n2_; (try clear hb); (try clear hb2); (try clear hk); (try clear hi); (try clear ho0); obtain ⟨Ao6,co6,eo6⟩ := Kd.R_slice HO395.out; subst eo6))
 go_loopg [4,13] k (fun kq v4 v13 w' => ∃ (x4_1 : List (S49)) (x13_1 : Int),v13 = .int .i64 x13_1 ∧ Aside0 (impl_readSamples.l0 kq x4_1 t393 (t393.length : Int) x13_1 = some (r1,r2)) ∧ Aside0 (kq ≤ k) ∧ Aside0 (Kd.R k49 49 w' w.heap.size (fun _ => True) v4 x4_1) ∧ Aside0 (Kd.R Kd.string 9 w' w.heap.size (fun _ => True) (.slice Ao6 t393.length co6) t393) ∧ Aside0 (Below w.heap.size w w'))
 case atStart => exact ⟨(y390),(0),(by first | rfl | (simp; done) | (simp [*]; done)),H',⟨Nat.le_refl _⟩,⟨rA HO392.out⟩,⟨rA HO395.out⟩,⟨bA⟩⟩
 case round =>
  clear H'
  try clear c2
  try clear p2
  try clear c4
  obtain ⟨x4_1,x13_1,rfl,HA,HK1,HO_4,HO_11,HB⟩ := hrel
  cases gk with
  | zero => exact absurd HA.out (by simp [impl_readSamples.l0])
  | succ k1 =>
   have H := HA.out
   clear HA
   simp only [impl_readSamples.l0] at H
   by_cases c7 : x13_1 < (t393.length : Int)
   ·rw [if_pos c7] at H
    have c7b0 : decide (x13_1 < (t393.length : Int)) = true := decide_eq_true c7
    clear c7
    by_cases c8 : 0 ≤ x13_1
    ·rw [if_pos c8] at H
     have c8b0 : decide (0 ≤ x13_1) = true := decide_eq_true c8
     clear c8
     by_cases c9 : x13_1 < (t393.length : Int)
     ·rw [if_pos c9] at H
      have c9b0 : decide (x13_1 < (t393.length : Int)) = true := decide_eq_true c9
      clear c9
      replace H := Option.bind_eq_some_iff.mp H
      obtain ⟨⟨t398,t399⟩,A100,H⟩ := H
      try dsimp only at H
      have A10 := Aside0.mk A100
      clear A100
      by_cases c11 : t399 = true
      ·subst c11
       rw [if_pos rfl] at H
       by_cases c12 : 0 < (t398.length : Int)
       ·rw [if_pos c12] at H
        have c12b0 : decide (0 < (t398.length : Int)) = true := decide_eq_true c12
        have c12b1 : decide (0 < t398.length) = true := decide_eq_true (by omega)
        clear c12
        by_cases c13 : 1 < (t398.length : Int)
        ·rw [if_pos c13] at H
         have c13b0 : decide (1 < (t398.length : Int)) = true := decide_eq_true c13
         have c13b1 : decide (1 < t398.length) = true := decide_eq_true (by omega)
         clear c13
         by_cases c14 : x4_1.length < 8796093022208
         ·rw [if_pos c14] at H
          have LMc14 := Aside0.mk c14
          clear c14
          obtain ⟨y404,hy404⟩ : ∃ y_ : List (S49),y_ = (x4_1 ++ [(⟨rd t398 0,rd t398 1⟩ : S49)]) := ⟨_,rfl⟩
          replace H : (impl_readSamples.l0 k1 y404 t393 (t393.length : Int) (wrap64 (x13_1 + 1))) = some (r1,r2) := by first | (rw [hy404]; with_reducible exact H) | (have H2_ := (Option.bind_some _ _).symm.trans H; rw [hy404]; with_reducible exact H2_) | (have H2_ := (Option.bind_some _ _).symm.trans H; with_reducible exact H2_) | with_reducible exact H | (rw [hy404]; exact H) | exact H
          have Ny404 := Aside0.mk hy404
          clear hy404
          have H' := Aside0.mk H
          clear H
          have p397 : 0 ≤ (x13_1 : Int) := od
          have q397 : x13_1 < (t393.length : Int) := od
          obtain ⟨ad397,e397,hx397_0⟩ := Kd.at_string (Kd.R_reads' HO_11.out).2.2 x13_1 p397 q397
          cases e397
          replace p397 := eq_true p397
          replace q397 := eq_true q397
          try go_wp2_with (first | ((with_reducible refine gate_callee (f:=49) rfl ?_); refine goesL_ (some 19) rfl rfl Tryz.func49 (by kernel_rfl) rfl #[.string (rdOf ByteArray.empty t393 x13_1),.string (⟨#[61]⟩ : ByteArray),.int .i64 2] rfl mA ?_; (with_reducible refine (impl_numbers.calls k1 (rdOf ByteArray.empty t393 x13_1) (⟨#[61]⟩ : ByteArray) 2 t398 true _ ?side1 A10.out).mono ?_); (case side1 => exact HV.out.below bA); rintro e w15 ⟨v400,rfl,ho0,hb⟩; refine ⟨_,rfl,?_⟩; have n0_ := Aside0.mk (Kd.R_below (rA HO_4.out) hb); have n1_ := Aside0.mk (Kd.R_below (rA HO_11.out) hb); have n2_ := Aside0.mk (Kd.R_lower ho0 (below_size bA)); have n3_ := Aside0.mk (below_step bA hb); clear HO_4; clear HO_11; clear HB; have HO_4 := n0_; have HO_11 := n1_; have HO401 := n2_; have HB := n3_; clear n0_ n1_ n2_ n3_; (try clear hb); (try clear hb2); (try clear hk); (try clear hi); (try clear ho0)))
          have n0_ := Aside0.mk (Kd.R_drew HO_4.out)
          have n1_ := Aside0.mk (Kd.R_drew HO_11.out)
          have n2_ := Aside0.mk (Kd.R_drew HO401.out)
          have n3_ := Aside0.mk (below_drew1 HB.out)
          clear HO_4
          clear HO_11
          clear HO401
          clear HB
          have HO_4 := n0_
          have HO_11 := n1_
          have HO401 := n2_
          have HB := n3_
          clear n0_ n1_ n2_ n3_
          obtain ⟨Ao17,co17,eo17⟩ := Kd.R_slice HO401.out
          (first | subst eo17 | (injection eo17 with f1_ f2_ f3_; have f4_ := f1_.symm; have f5_ := f3_.symm; clear f1_ f2_ f3_; subst f4_; subst f5_))
          have p402 : 0 ≤ (0 : Int) := (by omega)
          have q402 : 0 < (t398.length : Int) := od
          obtain ⟨ad402,e402,hx402_0⟩ := Kd.at_int (Kd.R_reads' HO401.out).2.2 0 p402 q402
          cases e402
          have qi402 : (0 < t398.length) = True := eq_true (by omega)
          (try rw [show ((0 : Int)).toNat = 0 from rfl] at hx402_0)
          (try rw [Addr.add_zero'] at hx402_0)
          replace p402 := eq_true p402
          replace q402 := eq_true q402
          have p403 : 0 ≤ (1 : Int) := (by omega)
          have q403 : 1 < (t398.length : Int) := od
          obtain ⟨ad403,e403,hx403_0⟩ := Kd.at_int (Kd.R_reads' HO401.out).2.2 1 p403 q403
          obtain rfl : ad402 = ad403 := (by injection e403)
          (try simp only [show (1 : Int).toNat = 1 from rfl,Nat.reduceMul,Nat.reduceEqDiff,Go.Addr.add,↓reduceIte] at hx403_0)
          have qi403 : (1 < t398.length) = True := eq_true (by omega)
          (try rw [show ((1 : Int)).toNat = 1 from rfl] at hx403_0)
          replace p403 := eq_true p403
          replace q403 := eq_true q403
          refine start_ (n:=11) (S:=fun w' => w'.cell? ad402 = some (.int .i64 (rd t398 0)) ∧ w'.cell? ⟨ad402.block,ad402.off + 1,none⟩ = some (.int .i64 (rd t398 1))) (ds := [8,9]) (bm 11 0) (by kernel_rfl) rfl rfl ⟨hx402_0,hx403_0⟩ (fun hHeld => ?_); refine with_tabW impl_readSamples.tab8 impl_readSamples.bits8 (fun HT_ HW_ => ?_)
          generalize w15.drew = w16 at HO_4 HO_11 HO401 HB hx402_0 hx403_0 hHeld ⊢
          refine pV_ 0 24 (bm 11 1) HT_.out ?_
          refine pV_ 1 25 (bm 11 3) HT_.out ?_
          refine pV_ 2 26 (bm 11 7) HT_.out ?_
          refine pV_ 4 28 (bm 11 23) HT_.out ?_
          refine pV_ 5 29 (bm 11 55) HT_.out ?_
          refine take_ (i:=3) (N:=some 27) (v:=?_) (a':=?_) (bm 11 63) rfl rfl (take_ofW HT_.out HW_.out (by kernel_rfl)) (fun _ _ _ h => h) (Or.inl ⟨by rfl,?_⟩) hHeld ?_ ?_
          rotate_left
          ·rintro w' ⟨s0,s1⟩
           go_simp
           with_reducible rfl
          rotate_left
          ·simp only [Act.put,setIfInBounds_toArray,set_cons_zero,set_cons_succ,i64_w,i32_w]
           rfl
          refine take_ (i:=6) (N:=some 30) (v:=?_) (a':=?_) (bm 11 127) rfl rfl (take_ofW HT_.out HW_.out (by kernel_rfl)) (fun _ _ _ h => h) (Or.inl ⟨by rfl,?_⟩) hHeld ?_ ?_
          rotate_left
          ·rintro w' ⟨s0,s1⟩
           go_simp
           with_reducible rfl
          rotate_left
          ·simp only [Act.put,setIfInBounds_toArray,set_cons_zero,set_cons_succ,i64_w,i32_w]
           rfl
          refine pV_ 7 31 (bm 11 255) HT_.out ?_
          refine last_ (i:=8) (N:=some 32) (bm 11 511) rfl rfl (one_of HT_.out (by kernel_rfl)) (by decide) (fun K hK => ?_)
          refine value_ (w1 := ?_) (v:=?_) (by rfl) rfl ?_ ?_
          rotate_left 2
          ·go_simp
           constructor
           ·rfl
           ·rfl
          refine hK.out _ _ ?_
          clear hK K
          refine norm_ (a':=?_) ?_ ?_
          rotate_left
          ·show Act.put _ (some 32) _ = _
           simp only [Act.put,setIfInBounds_toArray,set_cons_zero,set_cons_succ,i64_w,i32_w]
           rfl
          refine last_ (i:=9) (N:=some 33) (bm 11 1023) rfl rfl (one_of HT_.out (by kernel_rfl)) (by decide) (fun K hK => ?_)
          refine Kd.R_append_step k49 (w0 := w) w.heap.size (by rfl) (.tmp 24) (.tmp 32) 45 49 (.agg #[(.int .i64 0),(.int .i64 0)]) 16 rfl Tryz.underlying45 info49 rfl (by decide) (by omega) u4 x4_1 (⟨rd t398 0,rd t398 1⟩ : S49) [.int .i64 (rd t398 0),.int .i64 (rd t398 1)] (fun _ => True) (fun _ => False) rfl rfl ?aP (fun _ hk => hk.elim) ?aF ?aO ?aB ?aS ?aL ?_
          (case aP => exact k49_mkM _ _ _ (⟨rd t398 0,rd t398 1⟩ : S49))
          (case aB => exact bA)
          (case aF => exact (fun _ _ => trivial))
          (case aO => exact (rA HO_4.out))
          (case aS => exact (below_size bA))
          (case aL => have := LMc14.out; omega)
          intro v405 w18 ho hb hg hat
          rw [← Ny404.out] at ho
          have n0_ := Aside0.mk (Kd.R_over' (rA HO_11.out) (Kd.R_typed (rA HO_4.out)) (by decide) hg)
          have n1_ := Aside0.mk (Kd.R_over' (rA HO401.out) (Kd.R_typed (rA HO_4.out)) (by decide) hg)
          have n2_ := Aside0.mk (hb)
          have n3_ := Aside0.mk (ho)
          clear HO_11
          clear HO401
          clear HB
          clear HO_4
          have HO_11 := n0_
          have HO401 := n1_
          have HB := n2_
          have HO406 := n3_
          clear n0_ n1_ n2_ n3_
          clear ho hb hg hat
          refine hK.out _ _ ?_
          clear hK K
          refine norm_ (a':=?_) ?_ ?_
          rotate_left
          ·show Act.put _ (some 33) _ = _
           simp only [Act.put,setIfInBounds_toArray,set_cons_zero,set_cons_succ,i64_w,i32_w]
           rfl
          refine pV_ 10 4 (bm 11 2047) HT_.out ?_
          refine done_ (done_of HT_.out (by kernel_rfl)) ?_
          try go_wp2
          go_roundg k1
          case measure => have := HK1.out; omega
          case rel => exact ⟨(y404),(wrap64 (x13_1 + 1)),(by first | rfl | (simp; done) | (simp [*]; done)),H',⟨by have := HK1.out; omega⟩,⟨rA HO406.out⟩,⟨rA HO_11.out⟩,⟨bA⟩⟩
         ·rw [if_neg c14] at H
          exact absurd H (by simp)
        ·rw [if_neg c13] at H
         exact absurd H (by simp)
       ·rw [if_neg c12] at H
        exact absurd H (by simp)
      ·replace c11 := Bool.eq_false_iff.mpr c11
       subst c11
       rw [if_neg (show ¬ (false = true) by decide)] at H
       simp only [Option.some.injEq,Prod.mk.injEq] at H
       obtain ⟨rfl,rfl⟩ := H
       have p397 : 0 ≤ (x13_1 : Int) := od
       have q397 : x13_1 < (t393.length : Int) := od
       obtain ⟨ad397,e397,hx397_0⟩ := Kd.at_string (Kd.R_reads' HO_11.out).2.2 x13_1 p397 q397
       cases e397
       replace p397 := eq_true p397
       replace q397 := eq_true q397
       go_wp2_with (first | ((with_reducible refine gate_callee (f:=49) rfl ?_); refine goesL_ (some 19) rfl rfl Tryz.func49 (by kernel_rfl) rfl #[.string (rdOf ByteArray.empty t393 x13_1),.string (⟨#[61]⟩ : ByteArray),.int .i64 2] rfl mA ?_; (with_reducible refine (impl_numbers.calls k1 (rdOf ByteArray.empty t393 x13_1) (⟨#[61]⟩ : ByteArray) 2 t398 false _ ?side1 A10.out).mono ?_); (case side1 => exact HV.out.below bA); rintro e w19 ⟨v400,rfl,ho0,hb⟩; refine ⟨_,rfl,?_⟩; have n0_ := Aside0.mk (Kd.R_below (rA HO_4.out) hb); have n1_ := Aside0.mk (Kd.R_below (rA HO_11.out) hb); have n2_ := Aside0.mk (Kd.R_lower ho0 (below_size bA)); have n3_ := Aside0.mk (below_step bA hb); clear HO_4; clear HO_11; clear HB; have HO_4 := n0_; have HO_11 := n1_; have HO401 := n2_; have HB := n3_; clear n0_ n1_ n2_ n3_; (try clear hb); (try clear hb2); (try clear hk); (try clear hi); (try clear ho0)))
       go_ret2
       exact ⟨_,by first | rfl | (simp only [i64_w,i32_w] <;> rfl) | (simp [errW_none,errW_some] <;> rfl) | (simp [*,errW_none,errW_some] <;> rfl),by first | exact Kd.R_nil _ _ _ _ _ | exact Kd.N_nil _ _ _ _ _ | exact Kd.V_nil _ _ _ _ _ | exact Kd.Q_nil _ _ _ _ _ | exact Kd.S_nil _ _ _ _ _,bA⟩
     ·rw [if_neg c9] at H
      exact absurd H (by simp)
    ·rw [if_neg c8] at H
     exact absurd H (by simp)
   ·rw [if_neg c7] at H
    have c7b0 : decide (x13_1 < (t393.length : Int)) = false := decide_eq_false c7
    clear c7
    replace H := Option.bind_eq_some_iff.mp H
    obtain ⟨t396,A200,H⟩ := H
    try dsimp only at H
    have A20 := Aside0.mk A200
    clear A200
    by_cases c21 : t396 = true
    ·subst c21
     rw [if_pos rfl] at H
     simp only [Option.some.injEq,Prod.mk.injEq] at H
     obtain ⟨rfl,rfl⟩ := H
     obtain ⟨Ao22,co22,eo22⟩ := Kd.R_slice HO_4.out
     subst eo22
     go_wp2_with (first | ((with_reducible refine gate_callee (f:=50) rfl ?_); refine goesL_ (some 37) rfl rfl Tryz.func50 (by kernel_rfl) rfl #[.slice Ao22 x4_1.length co22] rfl mA ?_; (with_reducible refine (impl_SamplesOK.calls k1 _ _ x4_1 true _ ?side1 ?side2 A20.out).mono ?_); (case side1 => repeat (first | exact (Kd.R_reads' HO_4.out).2.2 | (with_reducible refine Kd.C_alloc ?_ _) | (with_reducible refine Kd.C_drewN ?_ _) | (with_reducible refine Kd.C_drew ?_))); (case side2 => exact (Kd.R_reads' HO_4.out).2.1); rintro e w23 ⟨rfl,hb⟩; refine ⟨_,rfl,?_⟩; have n0_ := Aside0.mk (Kd.R_below (rA HO_4.out) hb); have n1_ := Aside0.mk (Kd.R_below (rA HO_11.out) hb); have n2_ := Aside0.mk (below_step bA hb); clear HO_4; clear HO_11; clear HB; have HO_4 := n0_; have HO_11 := n1_; have HB := n2_; clear n0_ n1_ n2_; (try clear hb); (try clear hb2); (try clear hk); (try clear hi)))
     go_ret2
     exact ⟨_,by first | rfl | (simp only [i64_w,i32_w] <;> rfl) | (simp [errW_none,errW_some] <;> rfl) | (simp [*,errW_none,errW_some] <;> rfl),rA HO_4.out,bA⟩
    ·replace c21 := Bool.eq_false_iff.mpr c21
     subst c21
     rw [if_neg (show ¬ (false = true) by decide)] at H
     simp only [Option.some.injEq,Prod.mk.injEq] at H
     obtain ⟨rfl,rfl⟩ := H
     obtain ⟨Ao24,co24,eo24⟩ := Kd.R_slice HO_4.out
     subst eo24
     go_wp2_with (first | ((with_reducible refine gate_callee (f:=50) rfl ?_); refine goesL_ (some 37) rfl rfl Tryz.func50 (by kernel_rfl) rfl #[.slice Ao24 x4_1.length co24] rfl mA ?_; (with_reducible refine (impl_SamplesOK.calls k1 _ _ x4_1 false _ ?side1 ?side2 A20.out).mono ?_); (case side1 => repeat (first | exact (Kd.R_reads' HO_4.out).2.2 | (with_reducible refine Kd.C_alloc ?_ _) | (with_reducible refine Kd.C_drewN ?_ _) | (with_reducible refine Kd.C_drew ?_))); (case side2 => exact (Kd.R_reads' HO_4.out).2.1); rintro e w25 ⟨rfl,hb⟩; refine ⟨_,rfl,?_⟩; have n0_ := Aside0.mk (Kd.R_below (rA HO_4.out) hb); have n1_ := Aside0.mk (Kd.R_below (rA HO_11.out) hb); have n2_ := Aside0.mk (below_step bA hb); clear HO_4; clear HO_11; clear HB; have HO_4 := n0_; have HO_11 := n1_; have HB := n2_; clear n0_ n1_ n2_; (try clear hb); (try clear hb2); (try clear hk); (try clear hi)))
     go_ret2
     exact ⟨_,by first | rfl | (simp only [i64_w,i32_w] <;> rfl) | (simp [errW_none,errW_some] <;> rfl) | (simp [*,errW_none,errW_some] <;> rfl),rA HO_4.out,bA⟩

/-! ### impl_Agg_merged: function 51 -/
def impl_Agg_merged.f (a0_0 : Int) (a0_1 : Int) (a0_2 : Int) (a0_3 : Int) (a0_4 : Int) (a0_5 : Int) (a1_0 : Int) (a1_1 : Int) (a1_2 : Int) (a1_3 : Int) (a1_4 : Int) (a1_5 : Int) : Option (Int × Int × Int × Int × Int × Int) := if a0_0 = 0 then (some (a1_0,a1_1,a1_2,a1_3,a1_4,a1_5)) else (if a1_0 = 0 then (some (a0_0,a0_1,a0_2,a0_3,a0_4,a0_5)) else (some (wrap64 (a0_0 + a1_0),wrap64 (a0_1 + a1_1),mn a0_2 a1_2,mx a0_3 a1_3,a0_4,a1_5)))
set_option maxHeartbeats 8000000 in
set_option maxRecDepth 100000 in
theorem impl_Agg_merged.calls (a0_0 : Int) (a0_1 : Int) (a0_2 : Int) (a0_3 : Int) (a0_4 : Int) (a0_5 : Int) (a1_0 : Int) (a1_1 : Int) (a1_2 : Int) (a1_3 : Int) (a1_4 : Int) (a1_5 : Int) (r1 : Int) (r2 : Int) (r3 : Int) (r4 : Int) (r5 : Int) (r6 : Int) (w : World) (h : impl_Agg_merged.f a0_0 a0_1 a0_2 a0_3 a0_4 a0_5 a1_0 a1_1 a1_2 a1_3 a1_4 a1_5 = some (r1,r2,r3,r4,r5,r6)) :
  Calls Tryz.prog 51 #[.agg #[.int .i64 a0_0,.int .i64 a0_1,.int .i64 a0_2,.int .i64 a0_3,.int .i64 a0_4,.int .i64 a0_5],.agg #[.int .i64 a1_0,.int .i64 a1_1,.int .i64 a1_2,.int .i64 a1_3,.int .i64 a1_4,.int .i64 a1_5]] w fun e w' => e = .returned (.agg #[.int .i64 r1,.int .i64 r2,.int .i64 r3,.int .i64 r4,.int .i64 r5,.int .i64 r6]) ∧ Below w.heap.size w w' := by
 have hu26 := Tryz.underlying26
 have HB := Aside0.mk (Below.refl w.heap.size w)
 have H : (if a0_0 = 0 then (some (a1_0,a1_1,a1_2,a1_3,a1_4,a1_5)) else (if a1_0 = 0 then (some (a0_0,a0_1,a0_2,a0_3,a0_4,a0_5)) else (some (wrap64 (a0_0 + a1_0),wrap64 (a0_1 + a1_1),mn a0_2 a1_2,mx a0_3 a1_3,a0_4,a1_5)))) = some (r1,r2,r3,r4,r5,r6) := h
 clear h
 by_cases c3 : a0_0 = 0
 ·rw [if_pos c3] at H
  have c3b0 : (a0_0 == 0) = true := beq_iff_eq.mpr c3
  have c3b1 : (a0_0 != 0) = false := bne_eq_false_iff_eq.mpr c3
  clear c3
  simp only [Option.some.injEq,Prod.mk.injEq] at H
  obtain ⟨rfl,rfl,rfl,rfl,rfl,rfl⟩ := H
  go_enter Tryz.func51,Tryz.ntmps51
  go_wp2_with (first | ((with_reducible refine gate_dst (N:=2) rfl ?_); refine box_event ?hg (N:=2) ?hd (cs := #[.int .i64 a0_0,.int .i64 a0_1,.int .i64 a0_2,.int .i64 a0_3,.int .i64 a0_4,.int .i64 a0_5]) (t:=26) ?hr ?_; (case hd => rfl); (case hg => rfl); (case hr => first | (go_simp; done) | (go_simp; rfl)); intro gb407 hg w4 hbox hb; have n0_ := Aside0.mk (below_step bA hb); have n1_ := Aside0.mk (hbox); have n2_ := Aside0.mk ((gw hg : w.heap.size ≤ gb407)); have n3_ := Aside0.mk ((gw hg : w.heap.size ≤ gb407)); clear HB; have HB := n0_; have BK407 := n1_; have GW407 := n2_; have GE407 := n3_; clear n0_ n1_ n2_ n3_; clear hb hbox hg) | ((with_reducible refine gate_dst (N:=3) rfl ?_); refine box_event ?hg (N:=3) ?hd (cs := #[.int .i64 a1_0,.int .i64 a1_1,.int .i64 a1_2,.int .i64 a1_3,.int .i64 a1_4,.int .i64 a1_5]) (t:=26) ?hr ?_; (case hd => rfl); (case hg => rfl); (case hr => first | (go_simp; done) | (go_simp; rfl)); intro gb408 hg w5 hbox hb; have n0_ := Aside0.mk (blk_below (g:=gb407) (o:=.cells #[.int .i64 a0_0,.int .i64 a0_1,.int .i64 a0_2,.int .i64 a0_3,.int .i64 a0_4,.int .i64 a0_5] 26 (0,0)) (kA BK407.out) hb); have n1_ := Aside0.mk (below_step bA hb); have n2_ := Aside0.mk (hbox); have n3_ := Aside0.mk ((gw hg : w.heap.size ≤ gb408)); have n4_ := Aside0.mk ((gw hg : w.heap.size ≤ gb408)); have n5_ := Aside0.mk ((by rw [hg]; exact Nat.ne_of_lt (blk_lt (g:=gb407) (o:=.cells #[.int .i64 a0_0,.int .i64 a0_1,.int .i64 a0_2,.int .i64 a0_3,.int .i64 a0_4,.int .i64 a0_5] 26 (0,0)) (kA BK407.out)) : gb407 ≠ gb408)); have n6_ := Aside0.mk ((by rw [hg]; exact Nat.ne_of_gt (blk_lt (g:=gb407) (o:=.cells #[.int .i64 a0_0,.int .i64 a0_1,.int .i64 a0_2,.int .i64 a0_3,.int .i64 a0_4,.int .i64 a0_5] 26 (0,0)) (kA BK407.out)) : gb408 ≠ gb407)); clear BK407; clear HB; have BK407 := n0_; have HB := n1_; have BK408 := n2_; have GW408 := n3_; have GE408 := n4_; have NB407_408 := n5_; have NB408_407 := n6_; clear n0_ n1_ n2_ n3_ n4_ n5_ n6_; clear hb hbox hg) | ((with_reducible refine gate_dst (N:=4) rfl ?_); refine box_event ?hg (N:=4) ?hd (cs := #[.int .i64 0,.int .i64 0,.int .i64 0,.int .i64 0,.int .i64 0,.int .i64 0]) (t:=26) ?hr ?_; (case hd => rfl); (case hg => rfl); (case hr => first | (go_simp; done) | (go_simp; rfl)); intro gb409 hg w6 hbox hb; have n0_ := Aside0.mk (blk_below (g:=gb407) (o:=.cells #[.int .i64 a0_0,.int .i64 a0_1,.int .i64 a0_2,.int .i64 a0_3,.int .i64 a0_4,.int .i64 a0_5] 26 (0,0)) (kA BK407.out) hb); have n1_ := Aside0.mk (blk_below (g:=gb408) (o:=.cells #[.int .i64 a1_0,.int .i64 a1_1,.int .i64 a1_2,.int .i64 a1_3,.int .i64 a1_4,.int .i64 a1_5] 26 (0,0)) (kA BK408.out) hb); have n2_ := Aside0.mk (below_step bA hb); have n3_ := Aside0.mk (hbox); have n4_ := Aside0.mk ((gw hg : w.heap.size ≤ gb409)); have n5_ := Aside0.mk ((gw hg : w.heap.size ≤ gb409)); have n6_ := Aside0.mk ((by rw [hg]; exact Nat.ne_of_lt (blk_lt (g:=gb407) (o:=.cells #[.int .i64 a0_0,.int .i64 a0_1,.int .i64 a0_2,.int .i64 a0_3,.int .i64 a0_4,.int .i64 a0_5] 26 (0,0)) (kA BK407.out)) : gb407 ≠ gb409)); have n7_ := Aside0.mk ((by rw [hg]; exact Nat.ne_of_gt (blk_lt (g:=gb407) (o:=.cells #[.int .i64 a0_0,.int .i64 a0_1,.int .i64 a0_2,.int .i64 a0_3,.int .i64 a0_4,.int .i64 a0_5] 26 (0,0)) (kA BK407.out)) : gb409 ≠ gb407)); have n8_ := Aside0.mk ((by rw [hg]; exact Nat.ne_of_lt (blk_lt (g:=gb408) (o:=.cells #[.int .i64 a1_0,.int .i64 a1_1,.int .i64 a1_2,.int .i64 a1_3,.int .i64 a1_4,.int .i64 a1_5] 26 (0,0)) (kA BK408.out)) : gb408 ≠ gb409)); have n9_ := Aside0.mk ((by rw [hg]; exact Nat.ne_of_gt (blk_lt (g:=gb408) (o:=.cells #[.int .i64 a1_0,.int .i64 a1_1,.int .i64 a1_2,.int .i64 a1_3,.int .i64 a1_4,.int .i64 a1_5] 26 (0,0)) (kA BK408.out)) : gb409 ≠ gb408)); clear BK407; clear BK408; clear HB; have BK407 := n0_; have BK408 := n1_; have HB := n2_; have BK409 := n3_; have GW409 := n4_; have GE409 := n5_; have NB407_409 := n6_; have NB409_407 := n7_; have NB408_409 := n8_; have NB409_408 := n9_; clear n0_ n1_ n2_ n3_ n4_ n5_ n6_ n7_ n8_ n9_; clear hb hbox hg; have hnb7 := NB407_408.out; have hnc7 := NB408_407.out; have hnb8 := NB407_409.out; have hnc8 := NB409_407.out; have hcz9_0 : w6.cell? ⟨gb407,0,none⟩ = some (.int .i64 a0_0) := (blk_cell BK407.out 0).trans rfl; have hcz9_1 : w6.cell? ⟨gb407,1,none⟩ = some (.int .i64 a0_1) := (blk_cell BK407.out 1).trans rfl; have hcz9_2 : w6.cell? ⟨gb407,2,none⟩ = some (.int .i64 a0_2) := (blk_cell BK407.out 2).trans rfl; have hcz9_3 : w6.cell? ⟨gb407,3,none⟩ = some (.int .i64 a0_3) := (blk_cell BK407.out 3).trans rfl; have hcz9_4 : w6.cell? ⟨gb407,4,none⟩ = some (.int .i64 a0_4) := (blk_cell BK407.out 4).trans rfl; have hcz9_5 : w6.cell? ⟨gb407,5,none⟩ = some (.int .i64 a0_5) := (blk_cell BK407.out 5).trans rfl; have hfz9_0 := blk_frozen BK407.out 0; have hfz9_1 := blk_frozen BK407.out 1; have hfz9_2 := blk_frozen BK407.out 2; have hfz9_3 := blk_frozen BK407.out 3; have hfz9_4 := blk_frozen BK407.out 4; have hfz9_5 := blk_frozen BK407.out 5; have hnb10 := NB408_409.out; have hnc10 := NB409_408.out; have hcz11_0 : w6.cell? ⟨gb408,0,none⟩ = some (.int .i64 a1_0) := (blk_cell BK408.out 0).trans rfl; have hcz11_1 : w6.cell? ⟨gb408,1,none⟩ = some (.int .i64 a1_1) := (blk_cell BK408.out 1).trans rfl; have hcz11_2 : w6.cell? ⟨gb408,2,none⟩ = some (.int .i64 a1_2) := (blk_cell BK408.out 2).trans rfl; have hcz11_3 : w6.cell? ⟨gb408,3,none⟩ = some (.int .i64 a1_3) := (blk_cell BK408.out 3).trans rfl; have hcz11_4 : w6.cell? ⟨gb408,4,none⟩ = some (.int .i64 a1_4) := (blk_cell BK408.out 4).trans rfl; have hcz11_5 : w6.cell? ⟨gb408,5,none⟩ = some (.int .i64 a1_5) := (blk_cell BK408.out 5).trans rfl; have hfz11_0 := blk_frozen BK408.out 0; have hfz11_1 := blk_frozen BK408.out 1; have hfz11_2 := blk_frozen BK408.out 2; have hfz11_3 := blk_frozen BK408.out 3; have hfz11_4 := blk_frozen BK408.out 4; have hfz11_5 := blk_frozen BK408.out 5; have hcz12_0 : w6.cell? ⟨gb409,0,none⟩ = some (.int .i64 0) := (blk_cell BK409.out 0).trans rfl; have hcz12_1 : w6.cell? ⟨gb409,1,none⟩ = some (.int .i64 0) := (blk_cell BK409.out 1).trans rfl; have hcz12_2 : w6.cell? ⟨gb409,2,none⟩ = some (.int .i64 0) := (blk_cell BK409.out 2).trans rfl; have hcz12_3 : w6.cell? ⟨gb409,3,none⟩ = some (.int .i64 0) := (blk_cell BK409.out 3).trans rfl; have hcz12_4 : w6.cell? ⟨gb409,4,none⟩ = some (.int .i64 0) := (blk_cell BK409.out 4).trans rfl; have hcz12_5 : w6.cell? ⟨gb409,5,none⟩ = some (.int .i64 0) := (blk_cell BK409.out 5).trans rfl; have hfz12_0 := blk_frozen BK409.out 0; have hfz12_1 := blk_frozen BK409.out 1; have hfz12_2 := blk_frozen BK409.out 2; have hfz12_3 := blk_frozen BK409.out 3; have hfz12_4 := blk_frozen BK409.out 4; have hfz12_5 := blk_frozen BK409.out 5))
  refine bodyPost_ret (results_cell_row rfl _ _ gb409 26 #[.int .i64 a1_0,.int .i64 a1_1,.int .i64 a1_2,.int .i64 a1_3,.int .i64 a1_4,.int .i64 a1_5] (0,0) _ rfl (by (with_reducible repeat (first | refine blk_drewN ?_ _ | refine blk_drew ?_ | refine blk_alloc ?_ _)); apply blkp6; (with_reducible repeat (first | refine blk_drewN ?_ _ | refine blk_drew ?_ | refine blk_alloc ?_ _)); exact BK409.out) Tryz.underlying26 rfl (by kernel_rfl)) rfl ?_
  exact ⟨by first | rfl | (simp only [i64_w,i32_w] <;> rfl) | (simp [errW_none,errW_some] <;> rfl) | (simp [*,errW_none,errW_some] <;> rfl),bA⟩
 ·rw [if_neg c3] at H
  have c3b0 : (a0_0 == 0) = false := beq_eq_false_iff_ne.mpr c3
  have c3b1 : (a0_0 != 0) = true := bne_iff_ne.mpr c3
  by_cases c13 : a1_0 = 0
  ·rw [if_pos c13] at H
   have c13b0 : (a1_0 == 0) = true := beq_iff_eq.mpr c13
   have c13b1 : (a1_0 != 0) = false := bne_eq_false_iff_eq.mpr c13
   clear c13
   simp only [Option.some.injEq,Prod.mk.injEq] at H
   obtain ⟨rfl,rfl,rfl,rfl,rfl,rfl⟩ := H
   go_enter Tryz.func51,Tryz.ntmps51
   go_wp2_with (first | ((with_reducible refine gate_dst (N:=2) rfl ?_); refine box_event ?hg (N:=2) ?hd (cs := #[.int .i64 a0_0,.int .i64 a0_1,.int .i64 a0_2,.int .i64 a0_3,.int .i64 a0_4,.int .i64 a0_5]) (t:=26) ?hr ?_; (case hd => rfl); (case hg => rfl); (case hr => first | (go_simp; done) | (go_simp; rfl)); intro gb407 hg w14 hbox hb; have n0_ := Aside0.mk (below_step bA hb); have n1_ := Aside0.mk (hbox); have n2_ := Aside0.mk ((gw hg : w.heap.size ≤ gb407)); have n3_ := Aside0.mk ((gw hg : w.heap.size ≤ gb407)); clear HB; have HB := n0_; have BK407 := n1_; have GW407 := n2_; have GE407 := n3_; clear n0_ n1_ n2_ n3_; clear hb hbox hg) | ((with_reducible refine gate_dst (N:=3) rfl ?_); refine box_event ?hg (N:=3) ?hd (cs := #[.int .i64 a1_0,.int .i64 a1_1,.int .i64 a1_2,.int .i64 a1_3,.int .i64 a1_4,.int .i64 a1_5]) (t:=26) ?hr ?_; (case hd => rfl); (case hg => rfl); (case hr => first | (go_simp; done) | (go_simp; rfl)); intro gb408 hg w15 hbox hb; have n0_ := Aside0.mk (blk_below (g:=gb407) (o:=.cells #[.int .i64 a0_0,.int .i64 a0_1,.int .i64 a0_2,.int .i64 a0_3,.int .i64 a0_4,.int .i64 a0_5] 26 (0,0)) (kA BK407.out) hb); have n1_ := Aside0.mk (below_step bA hb); have n2_ := Aside0.mk (hbox); have n3_ := Aside0.mk ((gw hg : w.heap.size ≤ gb408)); have n4_ := Aside0.mk ((gw hg : w.heap.size ≤ gb408)); have n5_ := Aside0.mk ((by rw [hg]; exact Nat.ne_of_lt (blk_lt (g:=gb407) (o:=.cells #[.int .i64 a0_0,.int .i64 a0_1,.int .i64 a0_2,.int .i64 a0_3,.int .i64 a0_4,.int .i64 a0_5] 26 (0,0)) (kA BK407.out)) : gb407 ≠ gb408)); have n6_ := Aside0.mk ((by rw [hg]; exact Nat.ne_of_gt (blk_lt (g:=gb407) (o:=.cells #[.int .i64 a0_0,.int .i64 a0_1,.int .i64 a0_2,.int .i64 a0_3,.int .i64 a0_4,.int .i64 a0_5] 26 (0,0)) (kA BK407.out)) : gb408 ≠ gb407)); clear BK407; clear HB; have BK407 := n0_; have HB := n1_; have BK408 := n2_; have GW408 := n3_; have GE408 := n4_; have NB407_408 := n5_; have NB408_407 := n6_; clear n0_ n1_ n2_ n3_ n4_ n5_ n6_; clear hb hbox hg) | ((with_reducible refine gate_dst (N:=4) rfl ?_); refine box_event ?hg (N:=4) ?hd (cs := #[.int .i64 0,.int .i64 0,.int .i64 0,.int .i64 0,.int .i64 0,.int .i64 0]) (t:=26) ?hr ?_; (case hd => rfl); (case hg => rfl); (case hr => first | (go_simp; done) | (go_simp; rfl)); intro gb409 hg w16 hbox hb; have n0_ := Aside0.mk (blk_below (g:=gb407) (o:=.cells #[.int .i64 a0_0,.int .i64 a0_1,.int .i64 a0_2,.int .i64 a0_3,.int .i64 a0_4,.int .i64 a0_5] 26 (0,0)) (kA BK407.out) hb); have n1_ := Aside0.mk (blk_below (g:=gb408) (o:=.cells #[.int .i64 a1_0,.int .i64 a1_1,.int .i64 a1_2,.int .i64 a1_3,.int .i64 a1_4,.int .i64 a1_5] 26 (0,0)) (kA BK408.out) hb); have n2_ := Aside0.mk (below_step bA hb); have n3_ := Aside0.mk (hbox); have n4_ := Aside0.mk ((gw hg : w.heap.size ≤ gb409)); have n5_ := Aside0.mk ((gw hg : w.heap.size ≤ gb409)); have n6_ := Aside0.mk ((by rw [hg]; exact Nat.ne_of_lt (blk_lt (g:=gb407) (o:=.cells #[.int .i64 a0_0,.int .i64 a0_1,.int .i64 a0_2,.int .i64 a0_3,.int .i64 a0_4,.int .i64 a0_5] 26 (0,0)) (kA BK407.out)) : gb407 ≠ gb409)); have n7_ := Aside0.mk ((by rw [hg]; exact Nat.ne_of_gt (blk_lt (g:=gb407) (o:=.cells #[.int .i64 a0_0,.int .i64 a0_1,.int .i64 a0_2,.int .i64 a0_3,.int .i64 a0_4,.int .i64 a0_5] 26 (0,0)) (kA BK407.out)) : gb409 ≠ gb407)); have n8_ := Aside0.mk ((by rw [hg]; exact Nat.ne_of_lt (blk_lt (g:=gb408) (o:=.cells #[.int .i64 a1_0,.int .i64 a1_1,.int .i64 a1_2,.int .i64 a1_3,.int .i64 a1_4,.int .i64 a1_5] 26 (0,0)) (kA BK408.out)) : gb408 ≠ gb409)); have n9_ := Aside0.mk ((by rw [hg]; exact Nat.ne_of_gt (blk_lt (g:=gb408) (o:=.cells #[.int .i64 a1_0,.int .i64 a1_1,.int .i64 a1_2,.int .i64 a1_3,.int .i64 a1_4,.int .i64 a1_5] 26 (0,0)) (kA BK408.out)) : gb409 ≠ gb408)); clear BK407; clear BK408; clear HB; have BK407 := n0_; have BK408 := n1_; have HB := n2_; have BK409 := n3_; have GW409 := n4_; have GE409 := n5_; have NB407_409 := n6_; have NB409_407 := n7_; have NB408_409 := n8_; have NB409_408 := n9_; clear n0_ n1_ n2_ n3_ n4_ n5_ n6_ n7_ n8_ n9_; clear hb hbox hg; have hnb17 := NB407_408.out; have hnc17 := NB408_407.out; have hnb18 := NB407_409.out; have hnc18 := NB409_407.out; have hcz19_0 : w16.cell? ⟨gb407,0,none⟩ = some (.int .i64 a0_0) := (blk_cell BK407.out 0).trans rfl; have hcz19_1 : w16.cell? ⟨gb407,1,none⟩ = some (.int .i64 a0_1) := (blk_cell BK407.out 1).trans rfl; have hcz19_2 : w16.cell? ⟨gb407,2,none⟩ = some (.int .i64 a0_2) := (blk_cell BK407.out 2).trans rfl; have hcz19_3 : w16.cell? ⟨gb407,3,none⟩ = some (.int .i64 a0_3) := (blk_cell BK407.out 3).trans rfl; have hcz19_4 : w16.cell? ⟨gb407,4,none⟩ = some (.int .i64 a0_4) := (blk_cell BK407.out 4).trans rfl; have hcz19_5 : w16.cell? ⟨gb407,5,none⟩ = some (.int .i64 a0_5) := (blk_cell BK407.out 5).trans rfl; have hfz19_0 := blk_frozen BK407.out 0; have hfz19_1 := blk_frozen BK407.out 1; have hfz19_2 := blk_frozen BK407.out 2; have hfz19_3 := blk_frozen BK407.out 3; have hfz19_4 := blk_frozen BK407.out 4; have hfz19_5 := blk_frozen BK407.out 5; have hnb20 := NB408_409.out; have hnc20 := NB409_408.out; have hcz21_0 : w16.cell? ⟨gb408,0,none⟩ = some (.int .i64 a1_0) := (blk_cell BK408.out 0).trans rfl; have hcz21_1 : w16.cell? ⟨gb408,1,none⟩ = some (.int .i64 a1_1) := (blk_cell BK408.out 1).trans rfl; have hcz21_2 : w16.cell? ⟨gb408,2,none⟩ = some (.int .i64 a1_2) := (blk_cell BK408.out 2).trans rfl; have hcz21_3 : w16.cell? ⟨gb408,3,none⟩ = some (.int .i64 a1_3) := (blk_cell BK408.out 3).trans rfl; have hcz21_4 : w16.cell? ⟨gb408,4,none⟩ = some (.int .i64 a1_4) := (blk_cell BK408.out 4).trans rfl; have hcz21_5 : w16.cell? ⟨gb408,5,none⟩ = some (.int .i64 a1_5) := (blk_cell BK408.out 5).trans rfl; have hfz21_0 := blk_frozen BK408.out 0; have hfz21_1 := blk_frozen BK408.out 1; have hfz21_2 := blk_frozen BK408.out 2; have hfz21_3 := blk_frozen BK408.out 3; have hfz21_4 := blk_frozen BK408.out 4; have hfz21_5 := blk_frozen BK408.out 5; have hcz22_0 : w16.cell? ⟨gb409,0,none⟩ = some (.int .i64 0) := (blk_cell BK409.out 0).trans rfl; have hcz22_1 : w16.cell? ⟨gb409,1,none⟩ = some (.int .i64 0) := (blk_cell BK409.out 1).trans rfl; have hcz22_2 : w16.cell? ⟨gb409,2,none⟩ = some (.int .i64 0) := (blk_cell BK409.out 2).trans rfl; have hcz22_3 : w16.cell? ⟨gb409,3,none⟩ = some (.int .i64 0) := (blk_cell BK409.out 3).trans rfl; have hcz22_4 : w16.cell? ⟨gb409,4,none⟩ = some (.int .i64 0) := (blk_cell BK409.out 4).trans rfl; have hcz22_5 : w16.cell? ⟨gb409,5,none⟩ = some (.int .i64 0) := (blk_cell BK409.out 5).trans rfl; have hfz22_0 := blk_frozen BK409.out 0; have hfz22_1 := blk_frozen BK409.out 1; have hfz22_2 := blk_frozen BK409.out 2; have hfz22_3 := blk_frozen BK409.out 3; have hfz22_4 := blk_frozen BK409.out 4; have hfz22_5 := blk_frozen BK409.out 5))
   refine bodyPost_ret (results_cell_row rfl _ _ gb409 26 #[.int .i64 a0_0,.int .i64 a0_1,.int .i64 a0_2,.int .i64 a0_3,.int .i64 a0_4,.int .i64 a0_5] (0,0) _ rfl (by (with_reducible repeat (first | refine blk_drewN ?_ _ | refine blk_drew ?_ | refine blk_alloc ?_ _)); apply blkp6; (with_reducible repeat (first | refine blk_drewN ?_ _ | refine blk_drew ?_ | refine blk_alloc ?_ _)); exact BK409.out) Tryz.underlying26 rfl (by kernel_rfl)) rfl ?_
   exact ⟨by first | rfl | (simp only [i64_w,i32_w] <;> rfl) | (simp [errW_none,errW_some] <;> rfl) | (simp [*,errW_none,errW_some] <;> rfl),bA⟩
  ·rw [if_neg c13] at H
   have c13b0 : (a1_0 == 0) = false := beq_eq_false_iff_ne.mpr c13
   have c13b1 : (a1_0 != 0) = true := bne_iff_ne.mpr c13
   obtain ⟨ji23,hji23⟩ : ∃ j_ : Int,(mn a0_2 a1_2) = j_ := ⟨_,rfl⟩
   replace H : (some (wrap64 (a0_0 + a1_0),wrap64 (a0_1 + a1_1),ji23,mx a0_3 a1_3,a0_4,a1_5)) = some (r1,r2,r3,r4,r5,r6) := by first | (rw [hji23] at H; exact H) | (simp only [hji23] at H ⊢; exact H)
   have hji23_ : (if a1_2 < a0_2 then a1_2 else a0_2) = ji23 := hji23
   obtain ⟨ji24,hji24⟩ : ∃ j_ : Int,(mx a0_3 a1_3) = j_ := ⟨_,rfl⟩
   replace H : (some (wrap64 (a0_0 + a1_0),wrap64 (a0_1 + a1_1),ji23,ji24,a0_4,a1_5)) = some (r1,r2,r3,r4,r5,r6) := by first | (rw [hji24] at H; exact H) | (simp only [hji24] at H ⊢; exact H)
   have hji24_ : (if a0_3 < a1_3 then a1_3 else a0_3) = ji24 := hji24
   simp only [Option.some.injEq,Prod.mk.injEq] at H
   obtain ⟨rfl,rfl,rfl,rfl,rfl,rfl⟩ := H
   go_enter Tryz.func51,Tryz.ntmps51
   go_wp2_with (first | ((with_reducible refine gate_dst (N:=2) rfl ?_); refine box_event ?hg (N:=2) ?hd (cs := #[.int .i64 a0_0,.int .i64 a0_1,.int .i64 a0_2,.int .i64 a0_3,.int .i64 a0_4,.int .i64 a0_5]) (t:=26) ?hr ?_; (case hd => rfl); (case hg => rfl); (case hr => first | (go_simp; done) | (go_simp; rfl)); intro gb407 hg w25 hbox hb; have n0_ := Aside0.mk (below_step bA hb); have n1_ := Aside0.mk (hbox); have n2_ := Aside0.mk ((gw hg : w.heap.size ≤ gb407)); have n3_ := Aside0.mk ((gw hg : w.heap.size ≤ gb407)); clear HB; have HB := n0_; have BK407 := n1_; have GW407 := n2_; have GE407 := n3_; clear n0_ n1_ n2_ n3_; clear hb hbox hg) | ((with_reducible refine gate_dst (N:=3) rfl ?_); refine box_event ?hg (N:=3) ?hd (cs := #[.int .i64 a1_0,.int .i64 a1_1,.int .i64 a1_2,.int .i64 a1_3,.int .i64 a1_4,.int .i64 a1_5]) (t:=26) ?hr ?_; (case hd => rfl); (case hg => rfl); (case hr => first | (go_simp; done) | (go_simp; rfl)); intro gb408 hg w26 hbox hb; have n0_ := Aside0.mk (blk_below (g:=gb407) (o:=.cells #[.int .i64 a0_0,.int .i64 a0_1,.int .i64 a0_2,.int .i64 a0_3,.int .i64 a0_4,.int .i64 a0_5] 26 (0,0)) (kA BK407.out) hb); have n1_ := Aside0.mk (below_step bA hb); have n2_ := Aside0.mk (hbox); have n3_ := Aside0.mk ((gw hg : w.heap.size ≤ gb408)); have n4_ := Aside0.mk ((gw hg : w.heap.size ≤ gb408)); have n5_ := Aside0.mk ((by rw [hg]; exact Nat.ne_of_lt (blk_lt (g:=gb407) (o:=.cells #[.int .i64 a0_0,.int .i64 a0_1,.int .i64 a0_2,.int .i64 a0_3,.int .i64 a0_4,.int .i64 a0_5] 26 (0,0)) (kA BK407.out)) : gb407 ≠ gb408)); have n6_ := Aside0.mk ((by rw [hg]; exact Nat.ne_of_gt (blk_lt (g:=gb407) (o:=.cells #[.int .i64 a0_0,.int .i64 a0_1,.int .i64 a0_2,.int .i64 a0_3,.int .i64 a0_4,.int .i64 a0_5] 26 (0,0)) (kA BK407.out)) : gb408 ≠ gb407)); clear BK407; clear HB; have BK407 := n0_; have HB := n1_; have BK408 := n2_; have GW408 := n3_; have GE408 := n4_; have NB407_408 := n5_; have NB408_407 := n6_; clear n0_ n1_ n2_ n3_ n4_ n5_ n6_; clear hb hbox hg) | ((with_reducible refine gate_dst (N:=4) rfl ?_); refine box_event ?hg (N:=4) ?hd (cs := #[.int .i64 0,.int .i64 0,.int .i64 0,.int .i64 0,.int .i64 0,.int .i64 0]) (t:=26) ?hr ?_; (case hd => rfl); (case hg => rfl); (case hr => first | (go_simp; done) | (go_simp; rfl)); intro gb409 hg w27 hbox hb; have n0_ := Aside0.mk (blk_below (g:=gb407) (o:=.cells #[.int .i64 a0_0,.int .i64 a0_1,.int .i64 a0_2,.int .i64 a0_3,.int .i64 a0_4,.int .i64 a0_5] 26 (0,0)) (kA BK407.out) hb); have n1_ := Aside0.mk (blk_below (g:=gb408) (o:=.cells #[.int .i64 a1_0,.int .i64 a1_1,.int .i64 a1_2,.int .i64 a1_3,.int .i64 a1_4,.int .i64 a1_5] 26 (0,0)) (kA BK408.out) hb); have n2_ := Aside0.mk (below_step bA hb); have n3_ := Aside0.mk (hbox); have n4_ := Aside0.mk ((gw hg : w.heap.size ≤ gb409)); have n5_ := Aside0.mk ((gw hg : w.heap.size ≤ gb409)); have n6_ := Aside0.mk ((by rw [hg]; exact Nat.ne_of_lt (blk_lt (g:=gb407) (o:=.cells #[.int .i64 a0_0,.int .i64 a0_1,.int .i64 a0_2,.int .i64 a0_3,.int .i64 a0_4,.int .i64 a0_5] 26 (0,0)) (kA BK407.out)) : gb407 ≠ gb409)); have n7_ := Aside0.mk ((by rw [hg]; exact Nat.ne_of_gt (blk_lt (g:=gb407) (o:=.cells #[.int .i64 a0_0,.int .i64 a0_1,.int .i64 a0_2,.int .i64 a0_3,.int .i64 a0_4,.int .i64 a0_5] 26 (0,0)) (kA BK407.out)) : gb409 ≠ gb407)); have n8_ := Aside0.mk ((by rw [hg]; exact Nat.ne_of_lt (blk_lt (g:=gb408) (o:=.cells #[.int .i64 a1_0,.int .i64 a1_1,.int .i64 a1_2,.int .i64 a1_3,.int .i64 a1_4,.int .i64 a1_5] 26 (0,0)) (kA BK408.out)) : gb408 ≠ gb409)); have n9_ := Aside0.mk ((by rw [hg]; exact Nat.ne_of_gt (blk_lt (g:=gb408) (o:=.cells #[.int .i64 a1_0,.int .i64 a1_1,.int .i64 a1_2,.int .i64 a1_3,.int .i64 a1_4,.int .i64 a1_5] 26 (0,0)) (kA BK408.out)) : gb409 ≠ gb408)); clear BK407; clear BK408; clear HB; have BK407 := n0_; have BK408 := n1_; have HB := n2_; have BK409 := n3_; have GW409 := n4_; have GE409 := n5_; have NB407_409 := n6_; have NB409_407 := n7_; have NB408_409 := n8_; have NB409_408 := n9_; clear n0_ n1_ n2_ n3_ n4_ n5_ n6_ n7_ n8_ n9_; clear hb hbox hg; have hnb28 := NB407_408.out; have hnc28 := NB408_407.out; have hnb29 := NB407_409.out; have hnc29 := NB409_407.out; have hcz30_0 : w27.cell? ⟨gb407,0,none⟩ = some (.int .i64 a0_0) := (blk_cell BK407.out 0).trans rfl; have hcz30_1 : w27.cell? ⟨gb407,1,none⟩ = some (.int .i64 a0_1) := (blk_cell BK407.out 1).trans rfl; have hcz30_2 : w27.cell? ⟨gb407,2,none⟩ = some (.int .i64 a0_2) := (blk_cell BK407.out 2).trans rfl; have hcz30_3 : w27.cell? ⟨gb407,3,none⟩ = some (.int .i64 a0_3) := (blk_cell BK407.out 3).trans rfl; have hcz30_4 : w27.cell? ⟨gb407,4,none⟩ = some (.int .i64 a0_4) := (blk_cell BK407.out 4).trans rfl; have hcz30_5 : w27.cell? ⟨gb407,5,none⟩ = some (.int .i64 a0_5) := (blk_cell BK407.out 5).trans rfl; have hfz30_0 := blk_frozen BK407.out 0; have hfz30_1 := blk_frozen BK407.out 1; have hfz30_2 := blk_frozen BK407.out 2; have hfz30_3 := blk_frozen BK407.out 3; have hfz30_4 := blk_frozen BK407.out 4; have hfz30_5 := blk_frozen BK407.out 5; have hnb31 := NB408_409.out; have hnc31 := NB409_408.out; have hcz32_0 : w27.cell? ⟨gb408,0,none⟩ = some (.int .i64 a1_0) := (blk_cell BK408.out 0).trans rfl; have hcz32_1 : w27.cell? ⟨gb408,1,none⟩ = some (.int .i64 a1_1) := (blk_cell BK408.out 1).trans rfl; have hcz32_2 : w27.cell? ⟨gb408,2,none⟩ = some (.int .i64 a1_2) := (blk_cell BK408.out 2).trans rfl; have hcz32_3 : w27.cell? ⟨gb408,3,none⟩ = some (.int .i64 a1_3) := (blk_cell BK408.out 3).trans rfl; have hcz32_4 : w27.cell? ⟨gb408,4,none⟩ = some (.int .i64 a1_4) := (blk_cell BK408.out 4).trans rfl; have hcz32_5 : w27.cell? ⟨gb408,5,none⟩ = some (.int .i64 a1_5) := (blk_cell BK408.out 5).trans rfl; have hfz32_0 := blk_frozen BK408.out 0; have hfz32_1 := blk_frozen BK408.out 1; have hfz32_2 := blk_frozen BK408.out 2; have hfz32_3 := blk_frozen BK408.out 3; have hfz32_4 := blk_frozen BK408.out 4; have hfz32_5 := blk_frozen BK408.out 5; have hcz33_0 : w27.cell? ⟨gb409,0,none⟩ = some (.int .i64 0) := (blk_cell BK409.out 0).trans rfl; have hcz33_1 : w27.cell? ⟨gb409,1,none⟩ = some (.int .i64 0) := (blk_cell BK409.out 1).trans rfl; have hcz33_2 : w27.cell? ⟨gb409,2,none⟩ = some (.int .i64 0) := (blk_cell BK409.out 2).trans rfl; have hcz33_3 : w27.cell? ⟨gb409,3,none⟩ = some (.int .i64 0) := (blk_cell BK409.out 3).trans rfl; have hcz33_4 : w27.cell? ⟨gb409,4,none⟩ = some (.int .i64 0) := (blk_cell BK409.out 4).trans rfl; have hcz33_5 : w27.cell? ⟨gb409,5,none⟩ = some (.int .i64 0) := (blk_cell BK409.out 5).trans rfl; have hfz33_0 := blk_frozen BK409.out 0; have hfz33_1 := blk_frozen BK409.out 1; have hfz33_2 := blk_frozen BK409.out 2; have hfz33_3 := blk_frozen BK409.out 3; have hfz33_4 := blk_frozen BK409.out 4; have hfz33_5 := blk_frozen BK409.out 5))
   refine bodyPost_ret (results_cell_row rfl _ _ gb409 26 #[.int .i64 (wrap64 (a0_0 + a1_0)),.int .i64 (wrap64 (a0_1 + a1_1)),.int .i64 ji23,.int .i64 ji24,.int .i64 a0_4,.int .i64 a1_5] (0,0) _ rfl (by (with_reducible repeat (first | refine blk_drewN ?_ _ | refine blk_drew ?_ | refine blk_alloc ?_ _)); apply blkp6; (with_reducible repeat (first | refine blk_drewN ?_ _ | refine blk_drew ?_ | refine blk_alloc ?_ _)); exact BK409.out) Tryz.underlying26 rfl (by kernel_rfl)) rfl ?_
   exact ⟨by first | rfl | (simp only [i64_w,i32_w] <;> rfl) | (simp [errW_none,errW_some] <;> rfl) | (simp only [← hji23,← hji24]; first | rfl | (simp [errW_none,errW_some] <;> rfl)) | (simp [*,errW_none,errW_some] <;> rfl),bA⟩

/-! ### impl_aggOf: function 28 -/
def impl_aggOf.l0 : Nat → List (S49) → Int → Int → Int → Int → Int → Int → Int → Int → Option (Int × Int × Int × Int × Int × Int)
 | 0,_,_,_,_,_,_,_,_,_ => none
 | k + 1,x7,x8,x9,x412000,x412001,x412002,x412003,x412004,x412005 => if x9 < x8 then (if 0 ≤ x9 then (if x9 < (x7.length : Int) then ((impl_Agg_merged.f x412000 x412001 x412002 x412003 x412004 x412005 1 ((rd_T49 x7 x9).f1) ((rd_T49 x7 x9).f1) ((rd_T49 x7 x9).f1) ((rd_T49 x7 x9).f1) ((rd_T49 x7 x9).f1)).bind fun bt414 => (impl_aggOf.l0 k x7 x8 (wrap64 (x9 + 1)) bt414.1 bt414.2.1 bt414.2.2.1 bt414.2.2.2.1 bt414.2.2.2.2.1 bt414.2.2.2.2.2)) else (none)) else (none)) else (some (x412000,x412001,x412002,x412003,x412004,x412005))
def impl_aggOf.f (k : Nat) (l0 : List (S49)) : Option (Int × Int × Int × Int × Int × Int) := impl_aggOf.l0 k l0 (l0.length : Int) 0 0 0 0 0 0 0
theorem impl_aggOf.mono_l : ∀ k,(∀ y0 y1 y2 y3 y4 y5 y6 y7 y8,LeO (impl_aggOf.l0 k y0 y1 y2 y3 y4 y5 y6 y7 y8) (impl_aggOf.l0 (k + 1) y0 y1 y2 y3 y4 y5 y6 y7 y8))
 | 0 => fun _ _ _ _ _ _ _ _ _ r h => by simp [impl_aggOf.l0] at h
 | k + 1 => by
  have ih0 := impl_aggOf.mono_l k
  ·intro y0 y1 y2 y3 y4 y5 y6 y7 y8
   unfold impl_aggOf.l0
   repeat' first
   | (with_reducible exact ih0 _ _ _ _ _ _ _ _ _)
   | (with_reducible exact LeO.refl _)
   | (with_reducible exact LeO.none _)
   | (with_reducible refine LeO.ite ?_ ?_)
   | (with_reducible refine LeO.bind ?_ (fun _ => ?_))
   | exact ih0 _ _ _ _ _ _ _ _ _
   | exact LeO.none _
   | refine LeO.ite ?_ ?_
   | refine LeO.bind ?_ (fun _ => ?_)
theorem impl_aggOf.mono : ∀ a0 k,LeO (impl_aggOf.f k a0) (impl_aggOf.f (k + 1) a0) := by
 intro a0 k
 have ih0 := impl_aggOf.mono_l k
 unfold impl_aggOf.f
 repeat' first
   | (with_reducible exact ih0 _ _ _ _ _ _ _ _ _)
   | (with_reducible exact LeO.refl _)
   | (with_reducible exact LeO.none _)
   | (with_reducible refine LeO.ite ?_ ?_)
   | (with_reducible refine LeO.bind ?_ (fun _ => ?_))
   | exact ih0 _ _ _ _ _ _ _ _ _
   | exact LeO.none _
   | refine LeO.ite ?_ ?_
   | refine LeO.bind ?_ (fun _ => ?_)
set_option maxHeartbeats 8000000 in
set_option maxRecDepth 100000 in
theorem impl_aggOf.calls (k : Nat) (A0 : Option Addr) (c0 : Nat) (l0 : List (S49)) (r1 : Int) (r2 : Int) (r3 : Int) (r4 : Int) (r5 : Int) (r6 : Int) (w : World) (hr0 : Kd.C k49 w A0 l0.length l0) (hc0 : l0.length ≤ c0) (h : impl_aggOf.f k l0 = some (r1,r2,r3,r4,r5,r6)) :
  Calls Tryz.prog 28 #[.slice A0 l0.length c0] w fun e w' => e = .returned (.agg #[.int .i64 r1,.int .i64 r2,.int .i64 r3,.int .i64 r4,.int .i64 r5,.int .i64 r6]) ∧ Below w.heap.size w w' := by
 have hu26 := Tryz.underlying26
 have hu49 := Tryz.underlying49
 have HR0 := Aside0.mk hr0
 have HC0 := Aside0.mk hc0
 clear hr0 hc0
 have HB := Aside0.mk (Below.refl w.heap.size w)
 have H : (impl_aggOf.l0 k l0 (l0.length : Int) 0 0 0 0 0 0 0) = some (r1,r2,r3,r4,r5,r6) := h
 clear h
 have H' := Aside0.mk H
 clear H
 go_enter Tryz.func28,Tryz.ntmps28
 go_wp2_with (first | ((with_reducible refine gate_dst (N:=2) rfl ?_); refine box_event ?hg (N:=2) ?hd (cs := #[.int .i64 0,.int .i64 0,.int .i64 0,.int .i64 0,.int .i64 0,.int .i64 0]) (t:=26) ?hr ?_; (case hd => rfl); (case hg => rfl); (case hr => first | (go_simp; done) | (go_simp; rfl)); intro gb410 hg w2 hbox hb; have n0_ := Aside0.mk (below_step bA hb); have n1_ := Aside0.mk (hbox); have n2_ := Aside0.mk ((gw hg : w.heap.size ≤ gb410)); have n3_ := Aside0.mk ((gw hg : w.heap.size ≤ gb410)); clear HB; have HB := n0_; have BK410 := n1_; have GW410 := n2_; have GE410 := n3_; clear n0_ n1_ n2_ n3_; clear hb hbox hg) | ((with_reducible refine gate_dst (N:=3) rfl ?_); refine box_event ?hg (N:=3) ?hd (cs := #[.int .i64 0,.int .i64 0,.int .i64 0,.int .i64 0,.int .i64 0,.int .i64 0]) (t:=26) ?hr ?_; (case hd => rfl); (case hg => rfl); (case hr => first | (go_simp; done) | (go_simp; rfl)); intro gb411 hg w3 hbox hb; have n0_ := Aside0.mk (blk_below (g:=gb410) (o:=.cells #[.int .i64 0,.int .i64 0,.int .i64 0,.int .i64 0,.int .i64 0,.int .i64 0] 26 (0,0)) (kA BK410.out) hb); have n1_ := Aside0.mk (below_step bA hb); have n2_ := Aside0.mk (hbox); have n3_ := Aside0.mk ((gw hg : w.heap.size ≤ gb411)); have n4_ := Aside0.mk ((gw hg : w.heap.size ≤ gb411)); have n5_ := Aside0.mk ((by rw [hg]; exact Nat.ne_of_lt (blk_lt (g:=gb410) (o:=.cells #[.int .i64 0,.int .i64 0,.int .i64 0,.int .i64 0,.int .i64 0,.int .i64 0] 26 (0,0)) (kA BK410.out)) : gb410 ≠ gb411)); have n6_ := Aside0.mk ((by rw [hg]; exact Nat.ne_of_gt (blk_lt (g:=gb410) (o:=.cells #[.int .i64 0,.int .i64 0,.int .i64 0,.int .i64 0,.int .i64 0,.int .i64 0] 26 (0,0)) (kA BK410.out)) : gb411 ≠ gb410)); clear BK410; clear HB; have BK410 := n0_; have HB := n1_; have BK411 := n2_; have GW411 := n3_; have GE411 := n4_; have NB410_411 := n5_; have NB411_410 := n6_; clear n0_ n1_ n2_ n3_ n4_ n5_ n6_; clear hb hbox hg; have hnb4 := NB411_410.out; have hnc4 := NB410_411.out; have hcz5_0 : w3.cell? ⟨gb411,0,none⟩ = some (.int .i64 0) := (blk_cell BK411.out 0).trans rfl; have hcz5_1 : w3.cell? ⟨gb411,1,none⟩ = some (.int .i64 0) := (blk_cell BK411.out 1).trans rfl; have hcz5_2 : w3.cell? ⟨gb411,2,none⟩ = some (.int .i64 0) := (blk_cell BK411.out 2).trans rfl; have hcz5_3 : w3.cell? ⟨gb411,3,none⟩ = some (.int .i64 0) := (blk_cell BK411.out 3).trans rfl; have hcz5_4 : w3.cell? ⟨gb411,4,none⟩ = some (.int .i64 0) := (blk_cell BK411.out 4).trans rfl; have hcz5_5 : w3.cell? ⟨gb411,5,none⟩ = some (.int .i64 0) := (blk_cell BK411.out 5).trans rfl; have hfz5_0 := blk_frozen BK411.out 0; have hfz5_1 := blk_frozen BK411.out 1; have hfz5_2 := blk_frozen BK411.out 2; have hfz5_3 := blk_frozen BK411.out 3; have hfz5_4 := blk_frozen BK411.out 4; have hfz5_5 := blk_frozen BK411.out 5))
 go_loopg [9] k (fun kq v9 w' => ∃ (x9_1 : Int) (x412000_1 : Int) (x412001_1 : Int) (x412002_1 : Int) (x412003_1 : Int) (x412004_1 : Int) (x412005_1 : Int),v9 = .int .i64 x9_1 ∧ Aside0 (impl_aggOf.l0 kq l0 (l0.length : Int) x9_1 x412000_1 x412001_1 x412002_1 x412003_1 x412004_1 x412005_1 = some (r1,r2,r3,r4,r5,r6)) ∧ Aside0 (kq ≤ k) ∧ Aside0 (w'.heap[gb410]? = some (.cells #[.int .i64 0,.int .i64 0,.int .i64 0,.int .i64 0,.int .i64 0,.int .i64 0] 26 (0,0))) ∧ Aside0 (w'.heap[gb411]? = some (.cells #[.int .i64 x412000_1,.int .i64 x412001_1,.int .i64 x412002_1,.int .i64 x412003_1,.int .i64 x412004_1,.int .i64 x412005_1] 26 (0,0))) ∧ Aside0 (Below w.heap.size w w'))
 case atStart => exact ⟨(0),(0),(0),(0),(0),(0),(0),(by first | rfl | (simp; done) | (simp [*]; done)),H',⟨Nat.le_refl _⟩,⟨kF BK410.out⟩,⟨by (with_reducible repeat (first | refine blk_drewN ?_ _ | refine blk_drew ?_ | refine blk_alloc ?_ _)); apply blkp6; (with_reducible repeat (first | refine blk_drewN ?_ _ | refine blk_drew ?_ | refine blk_alloc ?_ _)); exact BK411.out⟩,⟨bA⟩⟩
 case round =>
  clear H'
  try clear c2
  try clear p2
  try clear c4
  try clear hcz5_0
  try clear hcz5_1
  try clear hcz5_2
  try clear hcz5_3
  try clear hcz5_4
  try clear hcz5_5
  try clear hfz5_0
  try clear hfz5_1
  try clear hfz5_2
  try clear hfz5_3
  try clear hfz5_4
  try clear hfz5_5
  obtain ⟨x9_1,x412000_1,x412001_1,x412002_1,x412003_1,x412004_1,x412005_1,rfl,HA,HK1,BK410,BK411,HB⟩ := hrel
  cases gk with
  | zero => exact absurd HA.out (by simp [impl_aggOf.l0])
  | succ k1 =>
   have H := HA.out
   clear HA
   simp only [impl_aggOf.l0] at H
   by_cases c6 : x9_1 < (l0.length : Int)
   ·rw [if_pos c6] at H
    have c6b0 : decide (x9_1 < (l0.length : Int)) = true := decide_eq_true c6
    clear c6
    by_cases c7 : 0 ≤ x9_1
    ·rw [if_pos c7] at H
     have c7b0 : decide (0 ≤ x9_1) = true := decide_eq_true c7
     clear c7
     by_cases c8 : x9_1 < (l0.length : Int)
     ·rw [if_pos c8] at H
      have c8b0 : decide (x9_1 < (l0.length : Int)) = true := decide_eq_true c8
      clear c8
      replace H := Option.bind_eq_some_iff.mp H
      obtain ⟨⟨t414,t415,t416,t417,t418,t419⟩,A90,H⟩ := H
      try dsimp only at H
      have A9 := Aside0.mk A90
      clear A90
      have H' := Aside0.mk H
      clear H
      have p412 : 0 ≤ (x9_1 : Int) := od
      have q412 : x9_1 < (l0.length : Int) := od
      obtain ⟨ad412,e412,hx412_0,hx412_1⟩ := at_T49 HR0.out x9_1 p412 q412
      cases e412
      replace hx412_0 := cb HB.out hx412_0
      replace hx412_1 := cb HB.out hx412_1
      replace p412 := eq_true p412
      replace q412 := eq_true q412
      go_wp2_with (first | ((with_reducible refine gate_dst (N:=5) rfl ?_); refine box_event ?hg (N:=5) ?hd (cs := #[.int .i64 0,.int .i64 0]) (t:=49) ?hr ?_; (case hd => rfl); (case hg => rfl); (case hr => first | (go_simp; done) | (go_simp; rfl)); intro gb413 hg w10 hbox hb; have n0_ := Aside0.mk (blk_below (g:=gb410) (o:=.cells #[.int .i64 0,.int .i64 0,.int .i64 0,.int .i64 0,.int .i64 0,.int .i64 0] 26 (0,0)) (kA BK410.out) hb); have n1_ := Aside0.mk (blk_below (g:=gb411) (o:=.cells #[.int .i64 x412000_1,.int .i64 x412001_1,.int .i64 x412002_1,.int .i64 x412003_1,.int .i64 x412004_1,.int .i64 x412005_1] 26 (0,0)) (kA BK411.out) hb); have n2_ := Aside0.mk (below_step bA hb); have n3_ := Aside0.mk (hbox); have n4_ := Aside0.mk ((gw hg : w.heap.size ≤ gb413)); have n5_ := Aside0.mk ((gw hg : w.heap.size ≤ gb413)); have n6_ := Aside0.mk ((by rw [hg]; exact Nat.ne_of_lt (blk_lt (g:=gb410) (o:=.cells #[.int .i64 0,.int .i64 0,.int .i64 0,.int .i64 0,.int .i64 0,.int .i64 0] 26 (0,0)) (kA BK410.out)) : gb410 ≠ gb413)); have n7_ := Aside0.mk ((by rw [hg]; exact Nat.ne_of_gt (blk_lt (g:=gb410) (o:=.cells #[.int .i64 0,.int .i64 0,.int .i64 0,.int .i64 0,.int .i64 0,.int .i64 0] 26 (0,0)) (kA BK410.out)) : gb413 ≠ gb410)); have n8_ := Aside0.mk ((by rw [hg]; exact Nat.ne_of_lt (blk_lt (g:=gb411) (o:=.cells #[.int .i64 x412000_1,.int .i64 x412001_1,.int .i64 x412002_1,.int .i64 x412003_1,.int .i64 x412004_1,.int .i64 x412005_1] 26 (0,0)) (kA BK411.out)) : gb411 ≠ gb413)); have n9_ := Aside0.mk ((by rw [hg]; exact Nat.ne_of_gt (blk_lt (g:=gb411) (o:=.cells #[.int .i64 x412000_1,.int .i64 x412001_1,.int .i64 x412002_1,.int .i64 x412003_1,.int .i64 x412004_1,.int .i64 x412005_1] 26 (0,0)) (kA BK411.out)) : gb413 ≠ gb411)); clear BK410; clear BK411; clear HB; have BK410 := n0_; have BK411 := n1_; have HB := n2_; have BK413 := n3_; have GW413 := n4_; have GE413 := n5_; have NB410_413 := n6_; have NB413_410 := n7_; have NB411_413 := n8_; have NB413_411 := n9_; clear n0_ n1_ n2_ n3_ n4_ n5_ n6_ n7_ n8_ n9_; clear hb hbox hg; have hnb11 := NB413_410.out; have hnc11 := NB410_413.out; have hnb12 := NB413_411.out; have hnc12 := NB411_413.out; have hcz13_0 : w10.cell? ⟨gb413,0,none⟩ = some (.int .i64 0) := (blk_cell BK413.out 0).trans rfl; have hcz13_1 : w10.cell? ⟨gb413,1,none⟩ = some (.int .i64 0) := (blk_cell BK413.out 1).trans rfl; have hfz13_0 := blk_frozen BK413.out 0; have hfz13_1 := blk_frozen BK413.out 1; have hnb14 := NB411_410.out; have hnc14 := NB410_411.out; have hcz15_0 : w10.cell? ⟨gb411,0,none⟩ = some (.int .i64 x412000_1) := (blk_cell BK411.out 0).trans rfl; have hcz15_1 : w10.cell? ⟨gb411,1,none⟩ = some (.int .i64 x412001_1) := (blk_cell BK411.out 1).trans rfl; have hcz15_2 : w10.cell? ⟨gb411,2,none⟩ = some (.int .i64 x412002_1) := (blk_cell BK411.out 2).trans rfl; have hcz15_3 : w10.cell? ⟨gb411,3,none⟩ = some (.int .i64 x412003_1) := (blk_cell BK411.out 3).trans rfl; have hcz15_4 : w10.cell? ⟨gb411,4,none⟩ = some (.int .i64 x412004_1) := (blk_cell BK411.out 4).trans rfl; have hcz15_5 : w10.cell? ⟨gb411,5,none⟩ = some (.int .i64 x412005_1) := (blk_cell BK411.out 5).trans rfl; have hfz15_0 := blk_frozen BK411.out 0; have hfz15_1 := blk_frozen BK411.out 1; have hfz15_2 := blk_frozen BK411.out 2; have hfz15_3 := blk_frozen BK411.out 3; have hfz15_4 := blk_frozen BK411.out 4; have hfz15_5 := blk_frozen BK411.out 5) | ((with_reducible refine gate_callee (f:=51) rfl ?_); refine goesL_ (some 25) rfl rfl Tryz.func51 (by kernel_rfl) rfl #[.agg #[.int .i64 x412000_1,.int .i64 x412001_1,.int .i64 x412002_1,.int .i64 x412003_1,.int .i64 x412004_1,.int .i64 x412005_1],.agg #[.int .i64 1,.int .i64 ((rd_T49 l0 x9_1).f1),.int .i64 ((rd_T49 l0 x9_1).f1),.int .i64 ((rd_T49 l0 x9_1).f1),.int .i64 ((rd_T49 l0 x9_1).f1),.int .i64 ((rd_T49 l0 x9_1).f1)]] rfl mA ?_; (with_reducible refine (impl_Agg_merged.calls x412000_1 x412001_1 x412002_1 x412003_1 x412004_1 x412005_1 1 ((rd_T49 l0 x9_1).f1) ((rd_T49 l0 x9_1).f1) ((rd_T49 l0 x9_1).f1) ((rd_T49 l0 x9_1).f1) ((rd_T49 l0 x9_1).f1) t414 t415 t416 t417 t418 t419 _ A9.out).mono ?_); rintro e w16 ⟨rfl,hb⟩; refine ⟨_,rfl,?_⟩; have n0_ := Aside0.mk (blk_below (g:=gb410) (o:=.cells #[.int .i64 0,.int .i64 0,.int .i64 0,.int .i64 0,.int .i64 0,.int .i64 0] 26 (0,0)) (kF BK410.out) hb); have n1_ := Aside0.mk (blk_below (g:=gb411) (o:=.cells #[.int .i64 x412000_1,.int .i64 x412001_1,.int .i64 x412002_1,.int .i64 x412003_1,.int .i64 x412004_1,.int .i64 x412005_1] 26 (0,0)) (kF BK411.out) hb); have n2_ := Aside0.mk (blk_below (g:=gb413) (o:=.cells #[.int .i64 ((rd_T49 l0 x9_1).f0),.int .i64 ((rd_T49 l0 x9_1).f1)] 49 (0,0)) (by (with_reducible repeat (first | refine blk_drewN ?_ _ | refine blk_drew ?_ | refine blk_alloc ?_ _)); apply blkp2; (with_reducible repeat (first | refine blk_drewN ?_ _ | refine blk_drew ?_ | refine blk_alloc ?_ _)); exact BK413.out) hb); have n3_ := Aside0.mk (below_step bA hb); clear BK410; clear BK411; clear BK413; clear HB; have BK410 := n0_; have BK411 := n1_; have BK413 := n2_; have HB := n3_; clear n0_ n1_ n2_ n3_; (try clear hb); (try clear hb2); (try clear hk); (try clear hi); have hcz17_0 : w16.cell? ⟨gb411,0,none⟩ = some (.int .i64 x412000_1) := (blk_cell BK411.out 0).trans rfl; have hcz17_1 : w16.cell? ⟨gb411,1,none⟩ = some (.int .i64 x412001_1) := (blk_cell BK411.out 1).trans rfl; have hcz17_2 : w16.cell? ⟨gb411,2,none⟩ = some (.int .i64 x412002_1) := (blk_cell BK411.out 2).trans rfl; have hcz17_3 : w16.cell? ⟨gb411,3,none⟩ = some (.int .i64 x412003_1) := (blk_cell BK411.out 3).trans rfl; have hcz17_4 : w16.cell? ⟨gb411,4,none⟩ = some (.int .i64 x412004_1) := (blk_cell BK411.out 4).trans rfl; have hcz17_5 : w16.cell? ⟨gb411,5,none⟩ = some (.int .i64 x412005_1) := (blk_cell BK411.out 5).trans rfl; have hfz17_0 := blk_frozen BK411.out 0; have hfz17_1 := blk_frozen BK411.out 1; have hfz17_2 := blk_frozen BK411.out 2; have hfz17_3 := blk_frozen BK411.out 3; have hfz17_4 := blk_frozen BK411.out 4; have hfz17_5 := blk_frozen BK411.out 5))
      go_roundg k1
      case measure => have := HK1.out; omega
      case rel => exact ⟨(wrap64 (x9_1 + 1)),(t414),(t415),(t416),(t417),(t418),(t419),(by first | rfl | (simp; done) | (simp [*]; done)),H',⟨by have := HK1.out; omega⟩,⟨kF BK410.out⟩,⟨by (with_reducible repeat (first | refine blk_drewN ?_ _ | refine blk_drew ?_ | refine blk_alloc ?_ _)); apply blkp6; (with_reducible repeat (first | refine blk_drewN ?_ _ | refine blk_drew ?_ | refine blk_alloc ?_ _)); exact BK411.out⟩,⟨bA⟩⟩
     ·rw [if_neg c8] at H
      exact absurd H (by simp)
    ·rw [if_neg c7] at H
     exact absurd H (by simp)
   ·rw [if_neg c6] at H
    have c6b0 : decide (x9_1 < (l0.length : Int)) = false := decide_eq_false c6
    clear c6
    simp only [Option.some.injEq,Prod.mk.injEq] at H
    obtain ⟨rfl,rfl,rfl,rfl,rfl,rfl⟩ := H
    have hnb18 := NB411_410.out
    have hnc18 := NB410_411.out
    have hcz19_0 : wr.cell? ⟨gb411,0,none⟩ = some (.int .i64 x412000_1) := (blk_cell BK411.out 0).trans rfl
    have hcz19_1 : wr.cell? ⟨gb411,1,none⟩ = some (.int .i64 x412001_1) := (blk_cell BK411.out 1).trans rfl
    have hcz19_2 : wr.cell? ⟨gb411,2,none⟩ = some (.int .i64 x412002_1) := (blk_cell BK411.out 2).trans rfl
    have hcz19_3 : wr.cell? ⟨gb411,3,none⟩ = some (.int .i64 x412003_1) := (blk_cell BK411.out 3).trans rfl
    have hcz19_4 : wr.cell? ⟨gb411,4,none⟩ = some (.int .i64 x412004_1) := (blk_cell BK411.out 4).trans rfl
    have hcz19_5 : wr.cell? ⟨gb411,5,none⟩ = some (.int .i64 x412005_1) := (blk_cell BK411.out 5).trans rfl
    have hfz19_0 := blk_frozen BK411.out 0
    have hfz19_1 := blk_frozen BK411.out 1
    have hfz19_2 := blk_frozen BK411.out 2
    have hfz19_3 := blk_frozen BK411.out 3
    have hfz19_4 := blk_frozen BK411.out 4
    have hfz19_5 := blk_frozen BK411.out 5
    have hcz20_0 : wr.cell? ⟨gb410,0,none⟩ = some (.int .i64 0) := (blk_cell BK410.out 0).trans rfl
    have hcz20_1 : wr.cell? ⟨gb410,1,none⟩ = some (.int .i64 0) := (blk_cell BK410.out 1).trans rfl
    have hcz20_2 : wr.cell? ⟨gb410,2,none⟩ = some (.int .i64 0) := (blk_cell BK410.out 2).trans rfl
    have hcz20_3 : wr.cell? ⟨gb410,3,none⟩ = some (.int .i64 0) := (blk_cell BK410.out 3).trans rfl
    have hcz20_4 : wr.cell? ⟨gb410,4,none⟩ = some (.int .i64 0) := (blk_cell BK410.out 4).trans rfl
    have hcz20_5 : wr.cell? ⟨gb410,5,none⟩ = some (.int .i64 0) := (blk_cell BK410.out 5).trans rfl
    have hfz20_0 := blk_frozen BK410.out 0
    have hfz20_1 := blk_frozen BK410.out 1
    have hfz20_2 := blk_frozen BK410.out 2
    have hfz20_3 := blk_frozen BK410.out 3
    have hfz20_4 := blk_frozen BK410.out 4
    have hfz20_5 := blk_frozen BK410.out 5
    go_wp2
    refine bodyPost_ret (results_cell_row rfl _ _ gb410 26 #[.int .i64 x412000_1,.int .i64 x412001_1,.int .i64 x412002_1,.int .i64 x412003_1,.int .i64 x412004_1,.int .i64 x412005_1] (0,0) _ rfl (by (with_reducible repeat (first | refine blk_drewN ?_ _ | refine blk_drew ?_ | refine blk_alloc ?_ _)); apply blkp6; (with_reducible repeat (first | refine blk_drewN ?_ _ | refine blk_drew ?_ | refine blk_alloc ?_ _)); exact BK410.out) Tryz.underlying26 rfl (by kernel_rfl)) rfl ?_
    exact ⟨by first | rfl | (simp only [i64_w,i32_w] <;> rfl) | (simp [errW_none,errW_some] <;> rfl) | (simp [*,errW_none,errW_some] <;> rfl),bA⟩

end Go.Proofs.YtleifhnoaaphmaaGreatDoor.XFnExactWindowOf
