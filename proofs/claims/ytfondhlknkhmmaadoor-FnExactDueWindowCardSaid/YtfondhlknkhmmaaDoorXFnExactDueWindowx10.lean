-- Printed by this session's own program wip/tools/xprint.py, which widens the kit's print. Not trusted: Lean checks it.
import Derived.Test.YtfondhlknkhmmaaDoorXFnExactDueWindowx0
import Derived.Test.YtfondhlknkhmmaaDoorXFnExactDueWindowx9
namespace Go.Proofs.YtfondhlknkhmmaaDoor.XFnExactDueWindow
open List (setIfInBounds_toArray set_cons_zero set_cons_succ)
open Go.RowKit Go.Proofs.YtfondhlknkhmmaaDoorW.PrintWords Go.Proofs.YtfondhlknkhmmaaDoorW.PrintLast Go.Proofs.YtfondhlknkhmmaaDoorW.PrintMore
attribute [local go_sem] max2_int min2_int max_two min_two max_three min_three max_four min_four   -- for this text's walks alone
set_option linter.unusedVariables false
set_option linter.unusedSimpArgs false

/-! ### impl_width: function 59 -/
def impl_width.f (a0 : Int) : Option (Int) := (some (([1,5,20] : List Int) : List Int)).bind fun y313 => (if 0 ≤ a0 then (if a0 < (y313.length : Int) then (some (rd y313 a0)) else (none)) else (none))
set_option maxHeartbeats 8000000 in
set_option maxRecDepth 100000 in
theorem impl_width.calls (a0 : Int) (r : Int) (w : World) (h : impl_width.f a0 = some r) :
  Calls Tryd.prog 59 #[.int .i64 a0] w fun e w' => e = .returned (.int .i64 r) ∧ Below w.heap.size w w' := by
 have HB := Aside0.mk (Below.refl w.heap.size w)
 have H : ((some (([1,5,20] : List Int) : List Int)).bind fun y313 => (if 0 ≤ a0 then (if a0 < (y313.length : Int) then (some (rd y313 a0)) else (none)) else (none))) = some r := h
 clear h
 obtain ⟨y313,hy313⟩ : ∃ y_ : List Int,y_ = (([1,5,20] : List Int)) := ⟨_,rfl⟩
 replace H : (if 0 ≤ a0 then (if a0 < (y313.length : Int) then (some (rd y313 a0)) else (none)) else (none)) = some r := by first | (rw [hy313]; with_reducible exact H) | (have H2_ := (Option.bind_some _ _).symm.trans H; rw [hy313]; with_reducible exact H2_) | (have H2_ := (Option.bind_some _ _).symm.trans H; with_reducible exact H2_) | with_reducible exact H | (rw [hy313]; exact H) | exact H
 have Ny313 := Aside0.mk hy313
 clear hy313
 by_cases c2 : 0 ≤ a0
 ·rw [if_pos c2] at H
  have c2b0 : decide (0 ≤ a0) = true := decide_eq_true c2
  clear c2
  by_cases c3 : a0 < (y313.length : Int)
  ·rw [if_pos c3] at H
   have c3b0 : decide (a0 < (y313.length : Int)) = true := decide_eq_true c3
   clear c3
   obtain rfl := Option.some.inj H
   go_enter Tryd.func59,Tryd.ntmps59
   go_wp2_with (first | ((with_reducible refine gate_dst (N:=3) rfl ?_); refine Kd.R_lit (Kd.int .i64) _ 3 ?hg (N:=3) ?hd (xs := ([1,5,20] : List Int)) (inner := [.int .i64 1,.int .i64 5,.int .i64 20]) (ok := fun _ => True) (okp := fun _ => True) ?hr ?hp (fun _ hk => hk) trivial (Below.refl _ _) (Nat.le_refl _) (by simp) ?_; (case hd => rfl); (case hg => rfl); (case hr => first | (go_simp; done) | (go_simp; rfl)); (case hp => exact (Reps.one (show Kd.M (Kd.int .i64) _ _ _ 1 [.int .i64 1] from rfl) (Reps.one (show Kd.M (Kd.int .i64) _ _ _ 5 [.int .i64 5] from rfl) (Reps.one (show Kd.M (Kd.int .i64) _ _ _ 20 [.int .i64 20] from rfl) (Reps.none _ _))))); intro v314 w4 ho5 hb hg_ hnew_; clear hg_ hnew_; (first | rw [← Ny313.out] at ho5 | (simp only [Int.reduceToNat] at ho5; rw [← Ny313.out] at ho5)); have n0_ := Aside0.mk (Kd.R_lower ho5 (below_size bA)); have n1_ := Aside0.mk (below_step bA hb); clear HB; have HO315 := n0_; have HB := n1_; clear n0_ n1_; clear hb ho5; obtain ⟨Ao6,co6,eo6⟩ := Kd.R_slice HO315.out; subst eo6; have p316 : 0 ≤ (a0 : Int) := of_decide_eq_true (by first | (with_reducible assumption) | assumption); have q316 : a0 < (y313.length : Int) := of_decide_eq_true (by first | (with_reducible assumption) | assumption); obtain ⟨ad316,e316,hx316_0⟩ := Kd.at_int (Kd.R_reads' HO315.out).2.2 a0 p316 q316; cases e316; replace p316 := eq_true p316; replace q316 := eq_true q316))
   go_ret
   exact ⟨by first | rfl | (simp [errW_none,errW_some] <;> rfl) | (simp [*,errW_none,errW_some] <;> rfl),bA⟩
  ·rw [if_neg c3] at H
   exact absurd H (by simp)
 ·rw [if_neg c2] at H
  exact absurd H (by simp)

/-! ### impl_State_due: function 35 -/
def impl_State_due.l0 : Nat → Int → Int → Int → List (S39) → List (S55) → Int → Int → Int → Int → Int → Int → Option (Int × Int × Bool)
 | 0,_,_,_,_,_,_,_,_,_,_,_ => none
 | k + 1,x5,x318000,x318001,x318002,x318003,x318004,x318005,x318006,x318007,x318008,x318009 => if x5 < 3 then (if 0 ≤ x5 then ((impl_width.f x5).bind fun t318 => (if 0 ≤ (wrap64 (x5 - 1)) then (if (wrap64 (x5 - 1)) < 3 then (if (wrap64 ((at3 x5 x318007 x318008 x318009) + t318)) ≤ (at3 (wrap64 (x5 - 1)) x318007 x318008 x318009) then (some (x5,(at3 x5 x318007 x318008 x318009),true)) else (impl_State_due.l0 k (wrap64 (x5 + 1)) x318000 x318001 x318002 x318003 x318004 x318005 x318006 x318007 x318008 x318009)) else (none)) else (none))) else (none)) else (some (0,0,false))
def impl_State_due.f (k : Nat) (a0_0 : Int) (a0_1 : Int) (l0_2 : List (S39)) (l0_3 : List (S55)) (a0_4 : Int) (a0_5 : Int) (a0_6 : Int) (a0_7 : Int) (a0_8 : Int) (a0_9 : Int) : Option (Int × Int × Bool) := impl_State_due.l0 k 1 a0_0 a0_1 l0_2 l0_3 a0_4 a0_5 a0_6 a0_7 a0_8 a0_9
theorem impl_State_due.mono_l : ∀ k,(∀ y0 y1 y2 y3 y4 y5 y6 y7 y8 y9 y10,LeO (impl_State_due.l0 k y0 y1 y2 y3 y4 y5 y6 y7 y8 y9 y10) (impl_State_due.l0 (k + 1) y0 y1 y2 y3 y4 y5 y6 y7 y8 y9 y10))
 | 0 => fun _ _ _ _ _ _ _ _ _ _ _ r h => by simp [impl_State_due.l0] at h
 | k + 1 => by
  have ih0 := impl_State_due.mono_l k
  ·intro y0 y1 y2 y3 y4 y5 y6 y7 y8 y9 y10
   unfold impl_State_due.l0
   repeat' first
   | (with_reducible exact ih0 _ _ _ _ _ _ _ _ _ _ _)
   | (with_reducible exact LeO.refl _)
   | (with_reducible exact LeO.none _)
   | (with_reducible refine LeO.ite ?_ ?_)
   | (with_reducible refine LeO.bind ?_ (fun _ => ?_))
   | exact ih0 _ _ _ _ _ _ _ _ _ _ _
   | exact LeO.none _
   | refine LeO.ite ?_ ?_
   | refine LeO.bind ?_ (fun _ => ?_)
theorem impl_State_due.mono : ∀ a0 a1 a2 a3 a4 a5 a6 a7 a8 a9 k,LeO (impl_State_due.f k a0 a1 a2 a3 a4 a5 a6 a7 a8 a9) (impl_State_due.f (k + 1) a0 a1 a2 a3 a4 a5 a6 a7 a8 a9) := by
 intro a0 a1 a2 a3 a4 a5 a6 a7 a8 a9 k
 have ih0 := impl_State_due.mono_l k
 unfold impl_State_due.f
 repeat' first
   | (with_reducible exact ih0 _ _ _ _ _ _ _ _ _ _ _)
   | (with_reducible exact LeO.refl _)
   | (with_reducible exact LeO.none _)
   | (with_reducible refine LeO.ite ?_ ?_)
   | (with_reducible refine LeO.bind ?_ (fun _ => ?_))
   | exact ih0 _ _ _ _ _ _ _ _ _ _ _
   | exact LeO.none _
   | refine LeO.ite ?_ ?_
   | refine LeO.bind ?_ (fun _ => ?_)
def impl_State_due.T4 : Bool × List (List Nat × List Nat) := (true,[([],[]),([],[]),([1,0],[0,1]),([2],[2]),([],[]),([4],[4]),([3,5],[3,5]),([],[]),([7],[7]),([],[]),([9,8],[8,9]),([10],[10]),([6,11],[6,11])])
def impl_State_due.B4 : List Nat := [0,0,3,7,0,16,63,0,128,0,896,1920,4095]
theorem impl_State_due.tab4 : rtab .any (opsOf Tryd.f35 4) = impl_State_due.T4 := by kernel_rfl
theorem impl_State_due.bits4 : waitsOk impl_State_due.T4.2 impl_State_due.B4 = true := by kernel_rfl
def impl_State_due.T5 : Bool × List (List Nat × List Nat) := (true,[([],[]),([],[]),([],[]),([2,1],[1,2]),([3],[3]),([0,0],[0]),([4,5,0,1,2,3,4,5],[4]),([6,0,1,2,3,4,5,6],[])])
def impl_State_due.B5 : List Nat := [0,0,0,6,14,1,63,127]
theorem impl_State_due.tab5 : rtab .any (opsOf Tryd.f35 5) = impl_State_due.T5 := by kernel_rfl
theorem impl_State_due.bits5 : waitsOk impl_State_due.T5.2 impl_State_due.B5 = true := by kernel_rfl
set_option maxHeartbeats 8000000 in
set_option maxRecDepth 100000 in
theorem impl_State_due.calls (k : Nat) (a0_0 : Int) (a0_1 : Int) (A0_2 : Option Addr) (c0_2 : Nat) (l0_2 : List (S39)) (A0_3 : Option Addr) (c0_3 : Nat) (l0_3 : List (S55)) (a0_4 : Int) (a0_5 : Int) (a0_6 : Int) (a0_7 : Int) (a0_8 : Int) (a0_9 : Int) (r1 : Int) (r2 : Int) (r3 : Bool) (w : World) (hr0_2 : Kd.C k39 w A0_2 l0_2.length l0_2) (hc0_2 : l0_2.length ≤ c0_2) (hr0_3 : Kd.C k55 w A0_3 l0_3.length l0_3) (hc0_3 : l0_3.length ≤ c0_3) (h : impl_State_due.f k a0_0 a0_1 l0_2 l0_3 a0_4 a0_5 a0_6 a0_7 a0_8 a0_9 = some (r1,r2,r3)) :
  Calls Tryd.prog 35 #[.agg #[.int .i64 a0_0,.int .i64 a0_1,.slice A0_2 l0_2.length c0_2,.slice A0_3 l0_3.length c0_3,.int .i64 a0_4,.int .i64 a0_5,.int .i64 a0_6,.int .i64 a0_7,.int .i64 a0_8,.int .i64 a0_9]] w fun e w' => e = .returned (.tuple #[.int .i64 r1,.int .i64 r2,.bool r3]) ∧ Below w.heap.size w w' := by
 have hu32 := Tryd.underlying32
 have HR0_2 := Aside0.mk hr0_2
 have HC0_2 := Aside0.mk hc0_2
 clear hr0_2 hc0_2
 have HR0_3 := Aside0.mk hr0_3
 have HC0_3 := Aside0.mk hc0_3
 clear hr0_3 hc0_3
 have HB := Aside0.mk (Below.refl w.heap.size w)
 have H : (impl_State_due.l0 k 1 a0_0 a0_1 l0_2 l0_3 a0_4 a0_5 a0_6 a0_7 a0_8 a0_9) = some (r1,r2,r3) := h
 clear h
 have H' := Aside0.mk H
 clear H
 go_enter Tryd.func35,Tryd.ntmps35
 go_wp2_with (first | ((with_reducible refine gate_dst (N:=1) rfl ?_); refine box_event ?hg (N:=1) ?hd (cs := #[.int .i64 a0_0,.int .i64 a0_1,.slice A0_2 l0_2.length c0_2,.slice A0_3 l0_3.length c0_3,.int .i64 a0_4,.int .i64 a0_5,.int .i64 a0_6,.int .i64 a0_7,.int .i64 a0_8,.int .i64 a0_9]) (t:=32) ?hr ?_; (case hd => rfl); (case hg => rfl); (case hr => first | (go_simp; done) | (go_simp; rfl)); intro gb317 hg w2 hbox hb; have n0_ := Aside0.mk (below_step bA hb); have n1_ := Aside0.mk (hbox); have n2_ := Aside0.mk ((by rw [hg]; exact (below_size bA) : w.heap.size ≤ gb317)); have n3_ := Aside0.mk ((by rw [hg]; exact (below_size bA) : w.heap.size ≤ gb317)); clear HB; have HB := n0_; have BK317 := n1_; have GW317 := n2_; have GE317 := n3_; clear n0_ n1_ n2_ n3_; clear hb hbox hg))
 go_loopg [5] k (fun kq v5 w' => ∃ (x5_1 : Int),v5 = .int .i64 x5_1 ∧ Aside0 (impl_State_due.l0 kq x5_1 a0_0 a0_1 l0_2 l0_3 a0_4 a0_5 a0_6 a0_7 a0_8 a0_9 = some (r1,r2,r3)) ∧ Aside0 (kq ≤ k) ∧ Aside0 (w'.heap[gb317]? = some (.cells #[.int .i64 a0_0,.int .i64 a0_1,(.slice A0_2 l0_2.length c0_2),(.slice A0_3 l0_3.length c0_3),.int .i64 a0_4,.int .i64 a0_5,.int .i64 a0_6,.int .i64 a0_7,.int .i64 a0_8,.int .i64 a0_9] 32 (0,0))) ∧ Aside0 (Below w.heap.size w w'))
 case atStart => exact ⟨(1),(by first | rfl | (simp; done) | (simp [*]; done)),H',⟨Nat.le_refl _⟩,⟨kA BK317.out⟩,⟨bA⟩⟩
 case round =>
  clear H'
  try clear p2
  obtain ⟨x5_1,rfl,HA,HK1,BK317,HB⟩ := hrel
  cases gk with
  | zero => exact absurd HA.out (by simp [impl_State_due.l0])
  | succ k1 =>
   have H := HA.out
   clear HA
   simp only [impl_State_due.l0] at H
   by_cases c3 : x5_1 < 3
   ·rw [if_pos c3] at H
    have c3b0 : decide (x5_1 < 3) = true := decide_eq_true c3
    clear c3
    by_cases c4 : 0 ≤ x5_1
    ·rw [if_pos c4] at H
     have c4b0 : decide (0 ≤ x5_1) = true := decide_eq_true c4
     clear c4
     replace H := Option.bind_eq_some_iff.mp H
     obtain ⟨t318,A50,H⟩ := H
     try dsimp only at H
     have A5 := Aside0.mk A50
     clear A50
     obtain ⟨ji6,hji6⟩ : ∃ j_ : Int,(wrap64 (x5_1 - 1)) = j_ := ⟨_,rfl⟩
     replace H : (if 0 ≤ (ji6) then (if (ji6) < 3 then (if (wrap64 ((at3 x5_1 a0_7 a0_8 a0_9) + t318)) ≤ (at3 (ji6) a0_7 a0_8 a0_9) then (some (x5_1,(at3 x5_1 a0_7 a0_8 a0_9),true)) else (impl_State_due.l0 k1 (wrap64 (x5_1 + 1)) a0_0 a0_1 l0_2 l0_3 a0_4 a0_5 a0_6 a0_7 a0_8 a0_9)) else (none)) else (none)) = some (r1,r2,r3) := by first | (rw [hji6] at H; exact H) | (simp only [hji6] at H ⊢; exact H)
     (try rw [hji6] at A5)
     have hji6w : (IntKind.i64.wrap (x5_1 - 1)) = ji6 := (i64_w _).trans hji6
     by_cases c7 : 0 ≤ (ji6)
     ·rw [if_pos c7] at H
      have c7b0 : decide (0 ≤ (ji6)) = true := decide_eq_true c7
      clear c7
      by_cases c8 : (ji6) < 3
      ·rw [if_pos c8] at H
       have c8b0 : decide ((ji6) < 3) = true := decide_eq_true c8
       clear c8
       by_cases c9 : (wrap64 ((at3 x5_1 a0_7 a0_8 a0_9) + t318)) ≤ (at3 (ji6) a0_7 a0_8 a0_9)
       ·rw [if_pos c9] at H
        have c9b0 : decide ((wrap64 ((at3 x5_1 a0_7 a0_8 a0_9) + t318)) ≤ (at3 (ji6) a0_7 a0_8 a0_9)) = true := decide_eq_true c9
        clear c9
        simp only [Option.some.injEq,Prod.mk.injEq] at H
        obtain ⟨rfl,rfl,rfl⟩ := H
        try go_wp2
        have n0_ := Aside0.mk (blk_drew BK317.out)
        have n1_ := Aside0.mk (below_drew1 HB.out)
        clear BK317
        clear HB
        have BK317 := n0_
        have HB := n1_
        clear n0_ n1_
        have hia11 := ia_dyn (P:=Tryd.prog) (t:=24) (e:=3) Tryd.underlying24 (by kernel_rfl) (by kernel_rfl) gb317 7 x5_1 (of_decide_eq_true (by first | (with_reducible assumption) | assumption)) (of_decide_eq_true (by first | (with_reducible assumption) | assumption))
        have hia12 := ia_dyn (P:=Tryd.prog) (t:=24) (e:=3) Tryd.underlying24 (by kernel_rfl) (by kernel_rfl) gb317 7 (ji6) (of_decide_eq_true (by first | (with_reducible assumption) | assumption)) (of_decide_eq_true (by first | (with_reducible assumption) | assumption))
        refine start_ (n:=13) (S:=fun w' => w'.cell? ⟨gb317,0,none⟩ = some (.int .i64 a0_0) ∧ w'.cell? ⟨gb317,1,none⟩ = some (.int .i64 a0_1) ∧ w'.cell? ⟨gb317,2,none⟩ = some (.slice A0_2 l0_2.length c0_2) ∧ w'.cell? ⟨gb317,3,none⟩ = some (.slice A0_3 l0_3.length c0_3) ∧ w'.cell? ⟨gb317,4,none⟩ = some (.int .i64 a0_4) ∧ w'.cell? ⟨gb317,5,none⟩ = some (.int .i64 a0_5) ∧ w'.cell? ⟨gb317,6,none⟩ = some (.int .i64 a0_6) ∧ w'.cell? ⟨gb317,7,none⟩ = some (.int .i64 a0_7) ∧ w'.cell? ⟨gb317,8,none⟩ = some (.int .i64 a0_8) ∧ w'.cell? ⟨gb317,9,none⟩ = some (.int .i64 a0_9) ∧ w'.cell? ⟨gb317,7 + x5_1.toNat,none⟩ = some (.int .i64 (at3 x5_1 a0_7 a0_8 a0_9)) ∧ w'.cell? ⟨gb317,7 + (ji6).toNat,none⟩ = some (.int .i64 (at3 (ji6) a0_7 a0_8 a0_9))) (ds := []) (bm 13 0) (by kernel_rfl) rfl rfl ⟨(blk_cell BK317.out 0).trans rfl,(blk_cell BK317.out 1).trans rfl,(blk_cell BK317.out 2).trans rfl,(blk_cell BK317.out 3).trans rfl,(blk_cell BK317.out 4).trans rfl,(blk_cell BK317.out 5).trans rfl,(blk_cell BK317.out 6).trans rfl,(blk_cell BK317.out 7).trans rfl,(blk_cell BK317.out 8).trans rfl,(blk_cell BK317.out 9).trans rfl,at3_cell (of_decide_eq_true (by first | (with_reducible assumption) | assumption)) (of_decide_eq_true (by first | (with_reducible assumption) | assumption)) ((blk_cell BK317.out 7).trans rfl) ((blk_cell BK317.out 8).trans rfl) ((blk_cell BK317.out 9).trans rfl),at3_cell (of_decide_eq_true (by first | (with_reducible assumption) | assumption)) (of_decide_eq_true (by first | (with_reducible assumption) | assumption)) ((blk_cell BK317.out 7).trans rfl) ((blk_cell BK317.out 8).trans rfl) ((blk_cell BK317.out 9).trans rfl)⟩ (fun hHeld => ?_); refine with_tabW impl_State_due.tab4 impl_State_due.bits4 (fun HT_ HW_ => ?_)
        generalize wr.drew = w10 at BK317 HB hHeld ⊢
        refine pV_ 0 10 (bm 13 1) HT_.out ?_
        refine pV_ 1 11 (bm 13 3) HT_.out ?_
        refine pV_ 2 12 (bm 13 7) HT_.out ?_
        refine pV_ 4 14 (bm 13 23) HT_.out ?_
        refine pV_ 7 17 (bm 13 151) HT_.out ?_
        refine pV_ 8 18 (bm 13 407) HT_.out ?_
        refine pV_ 9 19 (bm 13 919) HT_.out ?_
        refine pV_ 10 20 (bm 13 1943) HT_.out ?_
        refine take_ (i:=3) (N:=some 13) (v:=?_) (a':=?_) (bm 13 1951) rfl rfl (take_ofW HT_.out HW_.out (by kernel_rfl)) (fun _ _ _ h => h) (Or.inl ⟨by rfl,?_⟩) hHeld ?_ ?_
        rotate_left
        ·rintro w' ⟨s0,s1,s2,s3,s4,s5,s6,s7,s8,s9,s10,s11⟩
         go_simp
         with_reducible rfl
        rotate_left
        ·simp only [Act.put,setIfInBounds_toArray,set_cons_zero,set_cons_succ,i64_w,i32_w]
         rfl
        refine take_ (i:=11) (N:=some 21) (v:=?_) (a':=?_) (bm 13 3999) rfl rfl (take_ofW HT_.out HW_.out (by kernel_rfl)) (fun _ _ _ h => h) (Or.inl ⟨by rfl,?_⟩) hHeld ?_ ?_
        rotate_left
        ·rintro w' ⟨s0,s1,s2,s3,s4,s5,s6,s7,s8,s9,s10,s11⟩
         go_simp
         with_reducible rfl
        rotate_left
        ·simp only [Act.put,setIfInBounds_toArray,set_cons_zero,set_cons_succ,i64_w,i32_w]
         rfl
        refine one_ (i:=5) (N:=some 15) (bm 13 4031) rfl rfl (one_of HT_.out (by kernel_rfl)) (by decide) (fun K hK => ?_)
        refine goes_ Tryd.func59 (by kernel_rfl) rfl #[.int .i64 x5_1] (by rfl) rfl rfl mA ?_
        with_reducible refine (impl_width.calls x5_1 t318 _ A5.out).mono ?_
        rintro e w13 ⟨rfl,hb⟩
        refine ⟨_,rfl,?_⟩
        have n0_ := Aside0.mk (blk_below (g:=gb317) (o:=.cells #[.int .i64 a0_0,.int .i64 a0_1,.slice A0_2 l0_2.length c0_2,.slice A0_3 l0_3.length c0_3,.int .i64 a0_4,.int .i64 a0_5,.int .i64 a0_6,.int .i64 a0_7,.int .i64 a0_8,.int .i64 a0_9] 32 (0,0)) (kA BK317.out) hb)
        have n1_ := Aside0.mk (below_step bA hb)
        clear BK317
        clear HB
        have BK317 := n0_
        have HB := n1_
        clear n0_ n1_
        (try clear hb)
        (try clear hb2)
        (try clear hk)
        (try clear hi)
        refine hK.out _ _ ⟨(blk_cell BK317.out 0).trans rfl,(blk_cell BK317.out 1).trans rfl,(blk_cell BK317.out 2).trans rfl,(blk_cell BK317.out 3).trans rfl,(blk_cell BK317.out 4).trans rfl,(blk_cell BK317.out 5).trans rfl,(blk_cell BK317.out 6).trans rfl,(blk_cell BK317.out 7).trans rfl,(blk_cell BK317.out 8).trans rfl,(blk_cell BK317.out 9).trans rfl,at3_cell (of_decide_eq_true (by first | (with_reducible assumption) | assumption)) (of_decide_eq_true (by first | (with_reducible assumption) | assumption)) ((blk_cell BK317.out 7).trans rfl) ((blk_cell BK317.out 8).trans rfl) ((blk_cell BK317.out 9).trans rfl),at3_cell (of_decide_eq_true (by first | (with_reducible assumption) | assumption)) (of_decide_eq_true (by first | (with_reducible assumption) | assumption)) ((blk_cell BK317.out 7).trans rfl) ((blk_cell BK317.out 8).trans rfl) ((blk_cell BK317.out 9).trans rfl)⟩ (fun hHeld => ?_)
        clear hK K
        refine norm_ (a':=?_) ?_ ?_
        rotate_left
        ·show Act.put _ (some 15) _ = _
         simp only [Act.put,setIfInBounds_toArray,set_cons_zero,set_cons_succ,i64_w,i32_w]
         rfl
        refine pV_ 6 16 (bm 13 4095) HT_.out ?_
        refine pV_ 12 22 (bm 13 8191) HT_.out ?_
        refine done_ (done_of HT_.out (by kernel_rfl)) ?_
        try go_wp2
        have n0_ := Aside0.mk (blk_drew BK317.out)
        have n1_ := Aside0.mk (below_drew1 HB.out)
        clear BK317
        clear HB
        have BK317 := n0_
        have HB := n1_
        clear n0_ n1_
        have hia15 := ia_dyn (P:=Tryd.prog) (t:=24) (e:=3) Tryd.underlying24 (by kernel_rfl) (by kernel_rfl) gb317 7 x5_1 (of_decide_eq_true (by first | (with_reducible assumption) | assumption)) (of_decide_eq_true (by first | (with_reducible assumption) | assumption))
        refine start_ (n:=8) (S:=fun w' => w'.cell? ⟨gb317,0,none⟩ = some (.int .i64 a0_0) ∧ w'.cell? ⟨gb317,1,none⟩ = some (.int .i64 a0_1) ∧ w'.cell? ⟨gb317,2,none⟩ = some (.slice A0_2 l0_2.length c0_2) ∧ w'.cell? ⟨gb317,3,none⟩ = some (.slice A0_3 l0_3.length c0_3) ∧ w'.cell? ⟨gb317,4,none⟩ = some (.int .i64 a0_4) ∧ w'.cell? ⟨gb317,5,none⟩ = some (.int .i64 a0_5) ∧ w'.cell? ⟨gb317,6,none⟩ = some (.int .i64 a0_6) ∧ w'.cell? ⟨gb317,7,none⟩ = some (.int .i64 a0_7) ∧ w'.cell? ⟨gb317,8,none⟩ = some (.int .i64 a0_8) ∧ w'.cell? ⟨gb317,9,none⟩ = some (.int .i64 a0_9) ∧ w'.cell? ⟨gb317,7 + x5_1.toNat,none⟩ = some (.int .i64 (at3 x5_1 a0_7 a0_8 a0_9))) (ds := []) (bm 8 0) (by kernel_rfl) rfl rfl ⟨(blk_cell BK317.out 0).trans rfl,(blk_cell BK317.out 1).trans rfl,(blk_cell BK317.out 2).trans rfl,(blk_cell BK317.out 3).trans rfl,(blk_cell BK317.out 4).trans rfl,(blk_cell BK317.out 5).trans rfl,(blk_cell BK317.out 6).trans rfl,(blk_cell BK317.out 7).trans rfl,(blk_cell BK317.out 8).trans rfl,(blk_cell BK317.out 9).trans rfl,at3_cell (of_decide_eq_true (by first | (with_reducible assumption) | assumption)) (of_decide_eq_true (by first | (with_reducible assumption) | assumption)) ((blk_cell BK317.out 7).trans rfl) ((blk_cell BK317.out 8).trans rfl) ((blk_cell BK317.out 9).trans rfl)⟩ (fun hHeld => ?_); refine with_tabW impl_State_due.tab5 impl_State_due.bits5 (fun HT_ HW_ => ?_)
        generalize w13.drew = w14 at BK317 HB hHeld ⊢
        refine pV_ 0 23 (bm 8 1) HT_.out ?_
        refine pV_ 1 24 (bm 8 3) HT_.out ?_
        refine pV_ 2 25 (bm 8 7) HT_.out ?_
        refine pV_ 3 26 (bm 8 15) HT_.out ?_
        refine pV_ 5 2 (bm 8 47) HT_.out ?_
        refine take_ (i:=4) (N:=some 27) (v:=?_) (a':=?_) (bm 8 63) rfl rfl (take_ofW HT_.out HW_.out (by kernel_rfl)) (fun _ _ _ h => h) (Or.inl ⟨by rfl,?_⟩) hHeld ?_ ?_
        rotate_left
        ·rintro w' ⟨s0,s1,s2,s3,s4,s5,s6,s7,s8,s9,s10⟩
         go_simp
         with_reducible rfl
        rotate_left
        ·simp only [Act.put,setIfInBounds_toArray,set_cons_zero,set_cons_succ,i64_w,i32_w]
         rfl
        refine pV_ 6 3 (bm 8 127) HT_.out ?_
        refine pV_ 7 4 (bm 8 255) HT_.out ?_
        refine done_ (done_of HT_.out (by kernel_rfl)) ?_
        try go_wp2
        go_ret3
        exact ⟨by first | rfl | (simp only [i64_w,i32_w] <;> rfl) | (simp [errW_none,errW_some] <;> rfl) | (simp only [← hji6]; first | rfl | (simp [errW_none,errW_some] <;> rfl)) | (simp [*,errW_none,errW_some] <;> rfl),bA⟩
       ·rw [if_neg c9] at H
        have c9b0 : decide ((wrap64 ((at3 x5_1 a0_7 a0_8 a0_9) + t318)) ≤ (at3 (ji6) a0_7 a0_8 a0_9)) = false := decide_eq_false c9
        clear c9
        have H' := Aside0.mk H
        clear H
        try go_wp2
        have n0_ := Aside0.mk (blk_drew BK317.out)
        have n1_ := Aside0.mk (below_drew1 HB.out)
        clear BK317
        clear HB
        have BK317 := n0_
        have HB := n1_
        clear n0_ n1_
        have hia17 := ia_dyn (P:=Tryd.prog) (t:=24) (e:=3) Tryd.underlying24 (by kernel_rfl) (by kernel_rfl) gb317 7 x5_1 (of_decide_eq_true (by first | (with_reducible assumption) | assumption)) (of_decide_eq_true (by first | (with_reducible assumption) | assumption))
        have hia18 := ia_dyn (P:=Tryd.prog) (t:=24) (e:=3) Tryd.underlying24 (by kernel_rfl) (by kernel_rfl) gb317 7 (ji6) (of_decide_eq_true (by first | (with_reducible assumption) | assumption)) (of_decide_eq_true (by first | (with_reducible assumption) | assumption))
        refine start_ (n:=13) (S:=fun w' => w'.cell? ⟨gb317,0,none⟩ = some (.int .i64 a0_0) ∧ w'.cell? ⟨gb317,1,none⟩ = some (.int .i64 a0_1) ∧ w'.cell? ⟨gb317,2,none⟩ = some (.slice A0_2 l0_2.length c0_2) ∧ w'.cell? ⟨gb317,3,none⟩ = some (.slice A0_3 l0_3.length c0_3) ∧ w'.cell? ⟨gb317,4,none⟩ = some (.int .i64 a0_4) ∧ w'.cell? ⟨gb317,5,none⟩ = some (.int .i64 a0_5) ∧ w'.cell? ⟨gb317,6,none⟩ = some (.int .i64 a0_6) ∧ w'.cell? ⟨gb317,7,none⟩ = some (.int .i64 a0_7) ∧ w'.cell? ⟨gb317,8,none⟩ = some (.int .i64 a0_8) ∧ w'.cell? ⟨gb317,9,none⟩ = some (.int .i64 a0_9) ∧ w'.cell? ⟨gb317,7 + x5_1.toNat,none⟩ = some (.int .i64 (at3 x5_1 a0_7 a0_8 a0_9)) ∧ w'.cell? ⟨gb317,7 + (ji6).toNat,none⟩ = some (.int .i64 (at3 (ji6) a0_7 a0_8 a0_9))) (ds := []) (bm 13 0) (by kernel_rfl) rfl rfl ⟨(blk_cell BK317.out 0).trans rfl,(blk_cell BK317.out 1).trans rfl,(blk_cell BK317.out 2).trans rfl,(blk_cell BK317.out 3).trans rfl,(blk_cell BK317.out 4).trans rfl,(blk_cell BK317.out 5).trans rfl,(blk_cell BK317.out 6).trans rfl,(blk_cell BK317.out 7).trans rfl,(blk_cell BK317.out 8).trans rfl,(blk_cell BK317.out 9).trans rfl,at3_cell (of_decide_eq_true (by first | (with_reducible assumption) | assumption)) (of_decide_eq_true (by first | (with_reducible assumption) | assumption)) ((blk_cell BK317.out 7).trans rfl) ((blk_cell BK317.out 8).trans rfl) ((blk_cell BK317.out 9).trans rfl),at3_cell (of_decide_eq_true (by first | (with_reducible assumption) | assumption)) (of_decide_eq_true (by first | (with_reducible assumption) | assumption)) ((blk_cell BK317.out 7).trans rfl) ((blk_cell BK317.out 8).trans rfl) ((blk_cell BK317.out 9).trans rfl)⟩ (fun hHeld => ?_); refine with_tabW impl_State_due.tab4 impl_State_due.bits4 (fun HT_ HW_ => ?_)
        generalize wr.drew = w16 at BK317 HB hHeld ⊢
        refine pV_ 0 10 (bm 13 1) HT_.out ?_
        refine pV_ 1 11 (bm 13 3) HT_.out ?_
        refine pV_ 2 12 (bm 13 7) HT_.out ?_
        refine pV_ 4 14 (bm 13 23) HT_.out ?_
        refine pV_ 7 17 (bm 13 151) HT_.out ?_
        refine pV_ 8 18 (bm 13 407) HT_.out ?_
        refine pV_ 9 19 (bm 13 919) HT_.out ?_
        refine pV_ 10 20 (bm 13 1943) HT_.out ?_
        refine take_ (i:=3) (N:=some 13) (v:=?_) (a':=?_) (bm 13 1951) rfl rfl (take_ofW HT_.out HW_.out (by kernel_rfl)) (fun _ _ _ h => h) (Or.inl ⟨by rfl,?_⟩) hHeld ?_ ?_
        rotate_left
        ·rintro w' ⟨s0,s1,s2,s3,s4,s5,s6,s7,s8,s9,s10,s11⟩
         go_simp
         with_reducible rfl
        rotate_left
        ·simp only [Act.put,setIfInBounds_toArray,set_cons_zero,set_cons_succ,i64_w,i32_w]
         rfl
        refine take_ (i:=11) (N:=some 21) (v:=?_) (a':=?_) (bm 13 3999) rfl rfl (take_ofW HT_.out HW_.out (by kernel_rfl)) (fun _ _ _ h => h) (Or.inl ⟨by rfl,?_⟩) hHeld ?_ ?_
        rotate_left
        ·rintro w' ⟨s0,s1,s2,s3,s4,s5,s6,s7,s8,s9,s10,s11⟩
         go_simp
         with_reducible rfl
        rotate_left
        ·simp only [Act.put,setIfInBounds_toArray,set_cons_zero,set_cons_succ,i64_w,i32_w]
         rfl
        refine one_ (i:=5) (N:=some 15) (bm 13 4031) rfl rfl (one_of HT_.out (by kernel_rfl)) (by decide) (fun K hK => ?_)
        refine goes_ Tryd.func59 (by kernel_rfl) rfl #[.int .i64 x5_1] (by rfl) rfl rfl mA ?_
        with_reducible refine (impl_width.calls x5_1 t318 _ A5.out).mono ?_
        rintro e w19 ⟨rfl,hb⟩
        refine ⟨_,rfl,?_⟩
        have n0_ := Aside0.mk (blk_below (g:=gb317) (o:=.cells #[.int .i64 a0_0,.int .i64 a0_1,.slice A0_2 l0_2.length c0_2,.slice A0_3 l0_3.length c0_3,.int .i64 a0_4,.int .i64 a0_5,.int .i64 a0_6,.int .i64 a0_7,.int .i64 a0_8,.int .i64 a0_9] 32 (0,0)) (kA BK317.out) hb)
        have n1_ := Aside0.mk (below_step bA hb)
        clear BK317
        clear HB
        have BK317 := n0_
        have HB := n1_
        clear n0_ n1_
        (try clear hb)
        (try clear hb2)
        (try clear hk)
        (try clear hi)
        refine hK.out _ _ ⟨(blk_cell BK317.out 0).trans rfl,(blk_cell BK317.out 1).trans rfl,(blk_cell BK317.out 2).trans rfl,(blk_cell BK317.out 3).trans rfl,(blk_cell BK317.out 4).trans rfl,(blk_cell BK317.out 5).trans rfl,(blk_cell BK317.out 6).trans rfl,(blk_cell BK317.out 7).trans rfl,(blk_cell BK317.out 8).trans rfl,(blk_cell BK317.out 9).trans rfl,at3_cell (of_decide_eq_true (by first | (with_reducible assumption) | assumption)) (of_decide_eq_true (by first | (with_reducible assumption) | assumption)) ((blk_cell BK317.out 7).trans rfl) ((blk_cell BK317.out 8).trans rfl) ((blk_cell BK317.out 9).trans rfl),at3_cell (of_decide_eq_true (by first | (with_reducible assumption) | assumption)) (of_decide_eq_true (by first | (with_reducible assumption) | assumption)) ((blk_cell BK317.out 7).trans rfl) ((blk_cell BK317.out 8).trans rfl) ((blk_cell BK317.out 9).trans rfl)⟩ (fun hHeld => ?_)
        clear hK K
        refine norm_ (a':=?_) ?_ ?_
        rotate_left
        ·show Act.put _ (some 15) _ = _
         simp only [Act.put,setIfInBounds_toArray,set_cons_zero,set_cons_succ,i64_w,i32_w]
         rfl
        refine pV_ 6 16 (bm 13 4095) HT_.out ?_
        refine pV_ 12 22 (bm 13 8191) HT_.out ?_
        refine done_ (done_of HT_.out (by kernel_rfl)) ?_
        try go_wp2
        go_roundg k1
        case measure => have := HK1.out; omega
        case rel => exact ⟨(wrap64 (x5_1 + 1)),(by first | rfl | (simp; done) | (simp [*]; done)),H',⟨by have := HK1.out; omega⟩,⟨kA BK317.out⟩,⟨bA⟩⟩
      ·rw [if_neg c8] at H
       exact absurd H (by simp)
     ·rw [if_neg c7] at H
      exact absurd H (by simp)
    ·rw [if_neg c4] at H
     exact absurd H (by simp)
   ·rw [if_neg c3] at H
    have c3b0 : decide (x5_1 < 3) = false := decide_eq_false c3
    clear c3
    simp only [Option.some.injEq,Prod.mk.injEq] at H
    obtain ⟨rfl,rfl,rfl⟩ := H
    go_wp2
    go_ret3
    exact ⟨by first | rfl | (simp only [i64_w,i32_w] <;> rfl) | (simp [errW_none,errW_some] <;> rfl) | (simp [*,errW_none,errW_some] <;> rfl),bA⟩

/-! ### impl_DueWindow: function 12 -/
def impl_DueWindow.f (k : Nat) (a0_0 : Int) (a0_1 : Int) (l0_2 : List (S39)) (l0_3 : List (S55)) (a0_4 : Int) (a0_5 : Int) (a0_6 : Int) (a0_7 : Int) (a0_8 : Int) (a0_9 : Int) : Option (Int × Int × Bool × Int) := (impl_StateOK.f k a0_0 a0_1 l0_2 l0_3 a0_4 a0_5 a0_6 a0_7 a0_8 a0_9).bind fun t320 => (if t320 = true then ((impl_State_due.f k a0_0 a0_1 l0_2 l0_3 a0_4 a0_5 a0_6 a0_7 a0_8 a0_9).bind fun bt321 => (some (bt321.1,bt321.2.1,bt321.2.2,0))) else (some (0,0,false,1)))
theorem impl_DueWindow.mono : ∀ a0 a1 a2 a3 a4 a5 a6 a7 a8 a9 k,LeO (impl_DueWindow.f k a0 a1 a2 a3 a4 a5 a6 a7 a8 a9) (impl_DueWindow.f (k + 1) a0 a1 a2 a3 a4 a5 a6 a7 a8 a9) := by
 intro a0 a1 a2 a3 a4 a5 a6 a7 a8 a9 k
 unfold impl_DueWindow.f
 repeat' first
   | (with_reducible exact impl_StateOK.mono _ _ _ _ _ _ _ _ _ _ _)
   | (with_reducible exact impl_State_due.mono _ _ _ _ _ _ _ _ _ _ _)
   | (with_reducible exact LeO.refl _)
   | (with_reducible exact LeO.none _)
   | (with_reducible refine LeO.ite ?_ ?_)
   | (with_reducible refine LeO.bind ?_ (fun _ => ?_))
   | exact impl_StateOK.mono _ _ _ _ _ _ _ _ _ _ _
   | exact impl_State_due.mono _ _ _ _ _ _ _ _ _ _ _
   | exact LeO.none _
   | refine LeO.ite ?_ ?_
   | refine LeO.bind ?_ (fun _ => ?_)
set_option maxHeartbeats 8000000 in
set_option maxRecDepth 100000 in
theorem impl_DueWindow.calls (k : Nat) (a0_0 : Int) (a0_1 : Int) (A0_2 : Option Addr) (c0_2 : Nat) (l0_2 : List (S39)) (A0_3 : Option Addr) (c0_3 : Nat) (l0_3 : List (S55)) (a0_4 : Int) (a0_5 : Int) (a0_6 : Int) (a0_7 : Int) (a0_8 : Int) (a0_9 : Int) (r1 : Int) (r2 : Int) (r3 : Bool) (r4 : Int) (w : World) (hV : Vars w) (hr0_2 : Kd.C k39 w A0_2 l0_2.length l0_2) (hc0_2 : l0_2.length ≤ c0_2) (hr0_3 : Kd.C k55 w A0_3 l0_3.length l0_3) (hc0_3 : l0_3.length ≤ c0_3) (h : impl_DueWindow.f k a0_0 a0_1 l0_2 l0_3 a0_4 a0_5 a0_6 a0_7 a0_8 a0_9 = some (r1,r2,r3,r4)) :
  Calls Tryd.prog 12 #[.agg #[.int .i64 a0_0,.int .i64 a0_1,.slice A0_2 l0_2.length c0_2,.slice A0_3 l0_3.length c0_3,.int .i64 a0_4,.int .i64 a0_5,.int .i64 a0_6,.int .i64 a0_7,.int .i64 a0_8,.int .i64 a0_9]] w fun e w' => e = .returned (.tuple #[.int .i64 r1,.int .i64 r2,.bool r3,.int .i64 r4]) ∧ Below w.heap.size w w' := by
 have hu32 := Tryd.underlying32
 have HR0_2 := Aside0.mk hr0_2
 have HC0_2 := Aside0.mk hc0_2
 clear hr0_2 hc0_2
 have HR0_3 := Aside0.mk hr0_3
 have HC0_3 := Aside0.mk hc0_3
 clear hr0_3 hc0_3
 have HV := Aside0.mk hV
 clear hV
 have HB := Aside0.mk (Below.refl w.heap.size w)
 have H : ((impl_StateOK.f k a0_0 a0_1 l0_2 l0_3 a0_4 a0_5 a0_6 a0_7 a0_8 a0_9).bind fun t320 => (if t320 = true then ((impl_State_due.f k a0_0 a0_1 l0_2 l0_3 a0_4 a0_5 a0_6 a0_7 a0_8 a0_9).bind fun bt321 => (some (bt321.1,bt321.2.1,bt321.2.2,0))) else (some (0,0,false,1)))) = some (r1,r2,r3,r4) := h
 clear h
 replace H := Option.bind_eq_some_iff.mp H
 obtain ⟨t320,A20,H⟩ := H
 try dsimp only at H
 have A2 := Aside0.mk A20
 clear A20
 by_cases c3 : t320 = true
 ·subst c3
  rw [if_pos rfl] at H
  replace H := Option.bind_eq_some_iff.mp H
  obtain ⟨⟨t321,t322,t323⟩,A40,H⟩ := H
  try dsimp only at H
  have A4 := Aside0.mk A40
  clear A40
  simp only [Option.some.injEq,Prod.mk.injEq] at H
  obtain ⟨rfl,rfl,rfl,rfl⟩ := H
  go_enter Tryd.func12,Tryd.ntmps12
  go_wp2_with (first | ((with_reducible refine gate_dst (N:=1) rfl ?_); refine box_event ?hg (N:=1) ?hd (cs := #[.int .i64 a0_0,.int .i64 a0_1,.slice A0_2 l0_2.length c0_2,.slice A0_3 l0_3.length c0_3,.int .i64 a0_4,.int .i64 a0_5,.int .i64 a0_6,.int .i64 a0_7,.int .i64 a0_8,.int .i64 a0_9]) (t:=32) ?hr ?_; (case hd => rfl); (case hg => rfl); (case hr => first | (go_simp; done) | (go_simp; rfl)); intro gb319 hg w5 hbox hb; have n0_ := Aside0.mk (below_step bA hb); have n1_ := Aside0.mk (hbox); have n2_ := Aside0.mk ((by rw [hg]; exact (below_size bA) : w.heap.size ≤ gb319)); have n3_ := Aside0.mk ((by rw [hg]; exact (below_size bA) : w.heap.size ≤ gb319)); clear HB; have HB := n0_; have BK319 := n1_; have GW319 := n2_; have GE319 := n3_; clear n0_ n1_ n2_ n3_; clear hb hbox hg; have hcz6_0 : w5.cell? ⟨gb319,0,none⟩ = some (.int .i64 a0_0) := (blk_cell BK319.out 0).trans rfl; have hcz6_1 : w5.cell? ⟨gb319,1,none⟩ = some (.int .i64 a0_1) := (blk_cell BK319.out 1).trans rfl; have hcz6_2 : w5.cell? ⟨gb319,2,none⟩ = some (.slice A0_2 l0_2.length c0_2) := (blk_cell BK319.out 2).trans rfl; have hcz6_3 : w5.cell? ⟨gb319,3,none⟩ = some (.slice A0_3 l0_3.length c0_3) := (blk_cell BK319.out 3).trans rfl; have hcz6_4 : w5.cell? ⟨gb319,4,none⟩ = some (.int .i64 a0_4) := (blk_cell BK319.out 4).trans rfl; have hcz6_5 : w5.cell? ⟨gb319,5,none⟩ = some (.int .i64 a0_5) := (blk_cell BK319.out 5).trans rfl; have hcz6_6 : w5.cell? ⟨gb319,6,none⟩ = some (.int .i64 a0_6) := (blk_cell BK319.out 6).trans rfl; have hcz6_7 : w5.cell? ⟨gb319,7,none⟩ = some (.int .i64 a0_7) := (blk_cell BK319.out 7).trans rfl; have hcz6_8 : w5.cell? ⟨gb319,8,none⟩ = some (.int .i64 a0_8) := (blk_cell BK319.out 8).trans rfl; have hcz6_9 : w5.cell? ⟨gb319,9,none⟩ = some (.int .i64 a0_9) := (blk_cell BK319.out 9).trans rfl; have hfz6_0 := blk_frozen BK319.out 0; have hfz6_1 := blk_frozen BK319.out 1; have hfz6_2 := blk_frozen BK319.out 2; have hfz6_3 := blk_frozen BK319.out 3; have hfz6_4 := blk_frozen BK319.out 4; have hfz6_5 := blk_frozen BK319.out 5; have hfz6_6 := blk_frozen BK319.out 6; have hfz6_7 := blk_frozen BK319.out 7; have hfz6_8 := blk_frozen BK319.out 8; have hfz6_9 := blk_frozen BK319.out 9) | ((with_reducible refine gate_callee (f:=9) rfl ?_); refine goesL_ (some 10) rfl rfl Tryd.func9 (by kernel_rfl) rfl #[.agg #[.int .i64 a0_0,.int .i64 a0_1,.slice A0_2 l0_2.length c0_2,.slice A0_3 l0_3.length c0_3,.int .i64 a0_4,.int .i64 a0_5,.int .i64 a0_6,.int .i64 a0_7,.int .i64 a0_8,.int .i64 a0_9]] rfl mA ?_; (with_reducible refine (impl_StateOK.calls k a0_0 a0_1 _ _ l0_2 _ _ l0_3 a0_4 a0_5 a0_6 a0_7 a0_8 a0_9 true _ ?side1 ?side2 ?side3 ?side4 ?side5 A2.out).mono ?_); (case side1 => exact HV.out.below bA); (case side2 => repeat (first | exact (Kd.C_below HR0_2.out HB.out) | (with_reducible refine Kd.C_alloc ?_ _) | (with_reducible refine Kd.C_drewN ?_ _) | (with_reducible refine Kd.C_drew ?_))); (case side3 => exact HC0_2.out); (case side4 => repeat (first | exact (Kd.C_below HR0_3.out HB.out) | (with_reducible refine Kd.C_alloc ?_ _) | (with_reducible refine Kd.C_drewN ?_ _) | (with_reducible refine Kd.C_drew ?_))); (case side5 => exact HC0_3.out); rintro e w7 ⟨rfl,hb⟩; refine ⟨_,rfl,?_⟩; have n0_ := Aside0.mk (blk_below (g:=gb319) (o:=.cells #[.int .i64 a0_0,.int .i64 a0_1,.slice A0_2 l0_2.length c0_2,.slice A0_3 l0_3.length c0_3,.int .i64 a0_4,.int .i64 a0_5,.int .i64 a0_6,.int .i64 a0_7,.int .i64 a0_8,.int .i64 a0_9] 32 (0,0)) (kA BK319.out) hb); have n1_ := Aside0.mk (below_step bA hb); clear BK319; clear HB; have BK319 := n0_; have HB := n1_; clear n0_ n1_; (try clear hb); (try clear hb2); (try clear hk); (try clear hi); have hcz8_0 : w7.cell? ⟨gb319,0,none⟩ = some (.int .i64 a0_0) := (blk_cell BK319.out 0).trans rfl; have hcz8_1 : w7.cell? ⟨gb319,1,none⟩ = some (.int .i64 a0_1) := (blk_cell BK319.out 1).trans rfl; have hcz8_2 : w7.cell? ⟨gb319,2,none⟩ = some (.slice A0_2 l0_2.length c0_2) := (blk_cell BK319.out 2).trans rfl; have hcz8_3 : w7.cell? ⟨gb319,3,none⟩ = some (.slice A0_3 l0_3.length c0_3) := (blk_cell BK319.out 3).trans rfl; have hcz8_4 : w7.cell? ⟨gb319,4,none⟩ = some (.int .i64 a0_4) := (blk_cell BK319.out 4).trans rfl; have hcz8_5 : w7.cell? ⟨gb319,5,none⟩ = some (.int .i64 a0_5) := (blk_cell BK319.out 5).trans rfl; have hcz8_6 : w7.cell? ⟨gb319,6,none⟩ = some (.int .i64 a0_6) := (blk_cell BK319.out 6).trans rfl; have hcz8_7 : w7.cell? ⟨gb319,7,none⟩ = some (.int .i64 a0_7) := (blk_cell BK319.out 7).trans rfl; have hcz8_8 : w7.cell? ⟨gb319,8,none⟩ = some (.int .i64 a0_8) := (blk_cell BK319.out 8).trans rfl; have hcz8_9 : w7.cell? ⟨gb319,9,none⟩ = some (.int .i64 a0_9) := (blk_cell BK319.out 9).trans rfl; have hfz8_0 := blk_frozen BK319.out 0; have hfz8_1 := blk_frozen BK319.out 1; have hfz8_2 := blk_frozen BK319.out 2; have hfz8_3 := blk_frozen BK319.out 3; have hfz8_4 := blk_frozen BK319.out 4; have hfz8_5 := blk_frozen BK319.out 5; have hfz8_6 := blk_frozen BK319.out 6; have hfz8_7 := blk_frozen BK319.out 7; have hfz8_8 := blk_frozen BK319.out 8; have hfz8_9 := blk_frozen BK319.out 9) | ((with_reducible refine gate_callee (f:=35) rfl ?_); refine goesL_ (some 14) rfl rfl Tryd.func35 (by kernel_rfl) rfl #[.agg #[.int .i64 a0_0,.int .i64 a0_1,.slice A0_2 l0_2.length c0_2,.slice A0_3 l0_3.length c0_3,.int .i64 a0_4,.int .i64 a0_5,.int .i64 a0_6,.int .i64 a0_7,.int .i64 a0_8,.int .i64 a0_9]] rfl mA ?_; (with_reducible refine (impl_State_due.calls k a0_0 a0_1 _ _ l0_2 _ _ l0_3 a0_4 a0_5 a0_6 a0_7 a0_8 a0_9 t321 t322 t323 _ ?side1 ?side2 ?side3 ?side4 A4.out).mono ?_); (case side1 => repeat (first | exact (Kd.C_below HR0_2.out HB.out) | (with_reducible refine Kd.C_alloc ?_ _) | (with_reducible refine Kd.C_drewN ?_ _) | (with_reducible refine Kd.C_drew ?_))); (case side2 => exact HC0_2.out); (case side3 => repeat (first | exact (Kd.C_below HR0_3.out HB.out) | (with_reducible refine Kd.C_alloc ?_ _) | (with_reducible refine Kd.C_drewN ?_ _) | (with_reducible refine Kd.C_drew ?_))); (case side4 => exact HC0_3.out); rintro e w9 ⟨rfl,hb⟩; refine ⟨_,rfl,?_⟩; have n0_ := Aside0.mk (blk_below (g:=gb319) (o:=.cells #[.int .i64 a0_0,.int .i64 a0_1,.slice A0_2 l0_2.length c0_2,.slice A0_3 l0_3.length c0_3,.int .i64 a0_4,.int .i64 a0_5,.int .i64 a0_6,.int .i64 a0_7,.int .i64 a0_8,.int .i64 a0_9] 32 (0,0)) (kA BK319.out) hb); have n1_ := Aside0.mk (below_step bA hb); clear BK319; clear HB; have BK319 := n0_; have HB := n1_; clear n0_ n1_; (try clear hb); (try clear hb2); (try clear hk); (try clear hi)))
  refine bodyPost_ret (results_list (rs := [.tmp 2,.tmp 3,.tmp 4,.tmp 5]) rfl (by simp) (.tmp (.tmp (.tmp (.tmp .nil))))) rfl ?_
  exact ⟨by first | rfl | (simp [errW_none,errW_some] <;> rfl) | (simp [*,errW_none,errW_some] <;> rfl),bA⟩
 ·replace c3 := Bool.eq_false_iff.mpr c3
  subst c3
  rw [if_neg (show ¬ (false = true) by decide)] at H
  simp only [Option.some.injEq,Prod.mk.injEq] at H
  obtain ⟨rfl,rfl,rfl,rfl⟩ := H
  go_enter Tryd.func12,Tryd.ntmps12
  go_wp2_with (first | ((with_reducible refine gate_dst (N:=1) rfl ?_); refine box_event ?hg (N:=1) ?hd (cs := #[.int .i64 a0_0,.int .i64 a0_1,.slice A0_2 l0_2.length c0_2,.slice A0_3 l0_3.length c0_3,.int .i64 a0_4,.int .i64 a0_5,.int .i64 a0_6,.int .i64 a0_7,.int .i64 a0_8,.int .i64 a0_9]) (t:=32) ?hr ?_; (case hd => rfl); (case hg => rfl); (case hr => first | (go_simp; done) | (go_simp; rfl)); intro gb319 hg w10 hbox hb; have n0_ := Aside0.mk (below_step bA hb); have n1_ := Aside0.mk (hbox); have n2_ := Aside0.mk ((by rw [hg]; exact (below_size bA) : w.heap.size ≤ gb319)); have n3_ := Aside0.mk ((by rw [hg]; exact (below_size bA) : w.heap.size ≤ gb319)); clear HB; have HB := n0_; have BK319 := n1_; have GW319 := n2_; have GE319 := n3_; clear n0_ n1_ n2_ n3_; clear hb hbox hg; have hcz11_0 : w10.cell? ⟨gb319,0,none⟩ = some (.int .i64 a0_0) := (blk_cell BK319.out 0).trans rfl; have hcz11_1 : w10.cell? ⟨gb319,1,none⟩ = some (.int .i64 a0_1) := (blk_cell BK319.out 1).trans rfl; have hcz11_2 : w10.cell? ⟨gb319,2,none⟩ = some (.slice A0_2 l0_2.length c0_2) := (blk_cell BK319.out 2).trans rfl; have hcz11_3 : w10.cell? ⟨gb319,3,none⟩ = some (.slice A0_3 l0_3.length c0_3) := (blk_cell BK319.out 3).trans rfl; have hcz11_4 : w10.cell? ⟨gb319,4,none⟩ = some (.int .i64 a0_4) := (blk_cell BK319.out 4).trans rfl; have hcz11_5 : w10.cell? ⟨gb319,5,none⟩ = some (.int .i64 a0_5) := (blk_cell BK319.out 5).trans rfl; have hcz11_6 : w10.cell? ⟨gb319,6,none⟩ = some (.int .i64 a0_6) := (blk_cell BK319.out 6).trans rfl; have hcz11_7 : w10.cell? ⟨gb319,7,none⟩ = some (.int .i64 a0_7) := (blk_cell BK319.out 7).trans rfl; have hcz11_8 : w10.cell? ⟨gb319,8,none⟩ = some (.int .i64 a0_8) := (blk_cell BK319.out 8).trans rfl; have hcz11_9 : w10.cell? ⟨gb319,9,none⟩ = some (.int .i64 a0_9) := (blk_cell BK319.out 9).trans rfl; have hfz11_0 := blk_frozen BK319.out 0; have hfz11_1 := blk_frozen BK319.out 1; have hfz11_2 := blk_frozen BK319.out 2; have hfz11_3 := blk_frozen BK319.out 3; have hfz11_4 := blk_frozen BK319.out 4; have hfz11_5 := blk_frozen BK319.out 5; have hfz11_6 := blk_frozen BK319.out 6; have hfz11_7 := blk_frozen BK319.out 7; have hfz11_8 := blk_frozen BK319.out 8; have hfz11_9 := blk_frozen BK319.out 9) | ((with_reducible refine gate_callee (f:=9) rfl ?_); refine goesL_ (some 10) rfl rfl Tryd.func9 (by kernel_rfl) rfl #[.agg #[.int .i64 a0_0,.int .i64 a0_1,.slice A0_2 l0_2.length c0_2,.slice A0_3 l0_3.length c0_3,.int .i64 a0_4,.int .i64 a0_5,.int .i64 a0_6,.int .i64 a0_7,.int .i64 a0_8,.int .i64 a0_9]] rfl mA ?_; (with_reducible refine (impl_StateOK.calls k a0_0 a0_1 _ _ l0_2 _ _ l0_3 a0_4 a0_5 a0_6 a0_7 a0_8 a0_9 false _ ?side1 ?side2 ?side3 ?side4 ?side5 A2.out).mono ?_); (case side1 => exact HV.out.below bA); (case side2 => repeat (first | exact (Kd.C_below HR0_2.out HB.out) | (with_reducible refine Kd.C_alloc ?_ _) | (with_reducible refine Kd.C_drewN ?_ _) | (with_reducible refine Kd.C_drew ?_))); (case side3 => exact HC0_2.out); (case side4 => repeat (first | exact (Kd.C_below HR0_3.out HB.out) | (with_reducible refine Kd.C_alloc ?_ _) | (with_reducible refine Kd.C_drewN ?_ _) | (with_reducible refine Kd.C_drew ?_))); (case side5 => exact HC0_3.out); rintro e w12 ⟨rfl,hb⟩; refine ⟨_,rfl,?_⟩; have n0_ := Aside0.mk (blk_below (g:=gb319) (o:=.cells #[.int .i64 a0_0,.int .i64 a0_1,.slice A0_2 l0_2.length c0_2,.slice A0_3 l0_3.length c0_3,.int .i64 a0_4,.int .i64 a0_5,.int .i64 a0_6,.int .i64 a0_7,.int .i64 a0_8,.int .i64 a0_9] 32 (0,0)) (kA BK319.out) hb); have n1_ := Aside0.mk (below_step bA hb); clear BK319; clear HB; have BK319 := n0_; have HB := n1_; clear n0_ n1_; (try clear hb); (try clear hb2); (try clear hk); (try clear hi)))
  refine bodyPost_ret (results_list (rs := [.tmp 2,.tmp 3,.tmp 4,.tmp 5]) rfl (by simp) (.tmp (.tmp (.tmp (.tmp .nil))))) rfl ?_
  exact ⟨by first | rfl | (simp [errW_none,errW_some] <;> rfl) | (simp [*,errW_none,errW_some] <;> rfl),bA⟩

end Go.Proofs.YtfondhlknkhmmaaDoor.XFnExactDueWindow
