-- Printed by this session's own program wip/tools/xprint.py, which widens the kit's print. Not trusted: Lean checks it.
import Derived.Test.YtfondhlknkhmmaaDoorXFnExactDueWindowx0
import Derived.Test.YtfondhlknkhmmaaDoorXFnExactDueWindowx6
namespace Go.Proofs.YtfondhlknkhmmaaDoor.XFnExactDueWindow
open List (setIfInBounds_toArray set_cons_zero set_cons_succ)
open Go.RowKit Go.Proofs.YtfondhlknkhmmaaDoorW.PrintWords Go.Proofs.YtfondhlknkhmmaaDoorW.PrintLast Go.Proofs.YtfondhlknkhmmaaDoorW.PrintMore
attribute [local go_sem] max2_int min2_int max_two min_two max_three min_three max_four min_four   -- for this text's walks alone
set_option linter.unusedVariables false
set_option linter.unusedSimpArgs false

/-! ### spec_l04Width: function 58 -/
def spec_l04Width.f (a0 : Int) : Option (Int) := (some (([1,5,20] : List Int) : List Int)).bind fun y252 => (if 0 ≤ a0 then (if a0 < (y252.length : Int) then (some (rd y252 a0)) else (none)) else (none))
set_option maxHeartbeats 8000000 in
set_option maxRecDepth 100000 in
theorem spec_l04Width.calls (a0 : Int) (r : Int) (w : World) (h : spec_l04Width.f a0 = some r) :
  Calls Tryd.prog 58 #[.int .i64 a0] w fun e w' => e = .returned (.int .i64 r) ∧ Below w.heap.size w w' := by
 have HB := Aside0.mk (Below.refl w.heap.size w)
 have H : ((some (([1,5,20] : List Int) : List Int)).bind fun y252 => (if 0 ≤ a0 then (if a0 < (y252.length : Int) then (some (rd y252 a0)) else (none)) else (none))) = some r := h
 clear h
 obtain ⟨y252,hy252⟩ : ∃ y_ : List Int,y_ = (([1,5,20] : List Int)) := ⟨_,rfl⟩
 replace H : (if 0 ≤ a0 then (if a0 < (y252.length : Int) then (some (rd y252 a0)) else (none)) else (none)) = some r := by first | (rw [hy252]; with_reducible exact H) | (have H2_ := (Option.bind_some _ _).symm.trans H; rw [hy252]; with_reducible exact H2_) | (have H2_ := (Option.bind_some _ _).symm.trans H; with_reducible exact H2_) | with_reducible exact H | (rw [hy252]; exact H) | exact H
 have Ny252 := Aside0.mk hy252
 clear hy252
 by_cases c2 : 0 ≤ a0
 ·rw [if_pos c2] at H
  have c2b0 : decide (0 ≤ a0) = true := decide_eq_true c2
  clear c2
  by_cases c3 : a0 < (y252.length : Int)
  ·rw [if_pos c3] at H
   have c3b0 : decide (a0 < (y252.length : Int)) = true := decide_eq_true c3
   clear c3
   obtain rfl := Option.some.inj H
   go_enter Tryd.func58,Tryd.ntmps58
   go_wp2_with (first | ((with_reducible refine gate_dst (N:=3) rfl ?_); refine Kd.R_lit (Kd.int .i64) _ 3 ?hg (N:=3) ?hd (xs := ([1,5,20] : List Int)) (inner := [.int .i64 1,.int .i64 5,.int .i64 20]) (ok := fun _ => True) (okp := fun _ => True) ?hr ?hp (fun _ hk => hk) trivial (Below.refl _ _) (Nat.le_refl _) (by simp) ?_; (case hd => rfl); (case hg => rfl); (case hr => first | (go_simp; done) | (go_simp; rfl)); (case hp => exact (Reps.one (show Kd.M (Kd.int .i64) _ _ _ 1 [.int .i64 1] from rfl) (Reps.one (show Kd.M (Kd.int .i64) _ _ _ 5 [.int .i64 5] from rfl) (Reps.one (show Kd.M (Kd.int .i64) _ _ _ 20 [.int .i64 20] from rfl) (Reps.none _ _))))); intro v253 w4 ho5 hb hg_ hnew_; clear hg_ hnew_; (first | rw [← Ny252.out] at ho5 | (simp only [Int.reduceToNat] at ho5; rw [← Ny252.out] at ho5)); have n0_ := Aside0.mk (Kd.R_lower ho5 (below_size bA)); have n1_ := Aside0.mk (below_step bA hb); clear HB; have HO254 := n0_; have HB := n1_; clear n0_ n1_; clear hb ho5; obtain ⟨Ao6,co6,eo6⟩ := Kd.R_slice HO254.out; subst eo6; have p255 : 0 ≤ (a0 : Int) := of_decide_eq_true (by first | (with_reducible assumption) | assumption); have q255 : a0 < (y252.length : Int) := of_decide_eq_true (by first | (with_reducible assumption) | assumption); obtain ⟨ad255,e255,hx255_0⟩ := Kd.at_int (Kd.R_reads' HO254.out).2.2 a0 p255 q255; cases e255; replace p255 := eq_true p255; replace q255 := eq_true q255))
   go_ret
   exact ⟨by first | rfl | (simp [errW_none,errW_some] <;> rfl) | (simp [*,errW_none,errW_some] <;> rfl),bA⟩
  ·rw [if_neg c3] at H
   exact absurd H (by simp)
 ·rw [if_neg c2] at H
  exact absurd H (by simp)

/-! ### spec_l07Due: function 34 -/
def spec_l07Due.l0 : Nat → Int → Int → Int → List (S39) → List (S55) → Int → Int → Int → Int → Int → Int → Option (Int × Int × Bool)
 | 0,_,_,_,_,_,_,_,_,_,_,_ => none
 | k + 1,x5,x257000,x257001,x257002,x257003,x257004,x257005,x257006,x257007,x257008,x257009 => if x5 < 3 then (if 0 ≤ x5 then ((spec_l04Width.f x5).bind fun t257 => (if 0 ≤ (wrap64 (x5 - 1)) then (if (wrap64 (x5 - 1)) < 3 then (if (wrap64 ((at3 x5 x257007 x257008 x257009) + t257)) ≤ (at3 (wrap64 (x5 - 1)) x257007 x257008 x257009) then (some (x5,(at3 x5 x257007 x257008 x257009),true)) else (spec_l07Due.l0 k (wrap64 (x5 + 1)) x257000 x257001 x257002 x257003 x257004 x257005 x257006 x257007 x257008 x257009)) else (none)) else (none))) else (none)) else (some (0,0,false))
def spec_l07Due.f (k : Nat) (a0_0 : Int) (a0_1 : Int) (l0_2 : List (S39)) (l0_3 : List (S55)) (a0_4 : Int) (a0_5 : Int) (a0_6 : Int) (a0_7 : Int) (a0_8 : Int) (a0_9 : Int) : Option (Int × Int × Bool) := spec_l07Due.l0 k 1 a0_0 a0_1 l0_2 l0_3 a0_4 a0_5 a0_6 a0_7 a0_8 a0_9
theorem spec_l07Due.mono_l : ∀ k,(∀ y0 y1 y2 y3 y4 y5 y6 y7 y8 y9 y10,LeO (spec_l07Due.l0 k y0 y1 y2 y3 y4 y5 y6 y7 y8 y9 y10) (spec_l07Due.l0 (k + 1) y0 y1 y2 y3 y4 y5 y6 y7 y8 y9 y10))
 | 0 => fun _ _ _ _ _ _ _ _ _ _ _ r h => by simp [spec_l07Due.l0] at h
 | k + 1 => by
  have ih0 := spec_l07Due.mono_l k
  ·intro y0 y1 y2 y3 y4 y5 y6 y7 y8 y9 y10
   unfold spec_l07Due.l0
   repeat' first
   | (with_reducible exact ih0 _ _ _ _ _ _ _ _ _ _ _)
   | (with_reducible exact LeO.refl _)
   | (with_reducible exact LeO.none _)
   | (with_reducible refine LeO.ite ?_ ?_)
   | (with_reducible refine LeO.bind ?_ (fun _ => ?_))
   | exact ih0 _ _ _ _ _ _ _ _ _ _ _
   | exact LeO.none _
   | refine LeO.ite ?_ ?_
   | refine LeO.bind ?_ (fun _ => ?_)
theorem spec_l07Due.mono : ∀ a0 a1 a2 a3 a4 a5 a6 a7 a8 a9 k,LeO (spec_l07Due.f k a0 a1 a2 a3 a4 a5 a6 a7 a8 a9) (spec_l07Due.f (k + 1) a0 a1 a2 a3 a4 a5 a6 a7 a8 a9) := by
 intro a0 a1 a2 a3 a4 a5 a6 a7 a8 a9 k
 have ih0 := spec_l07Due.mono_l k
 unfold spec_l07Due.f
 repeat' first
   | (with_reducible exact ih0 _ _ _ _ _ _ _ _ _ _ _)
   | (with_reducible exact LeO.refl _)
   | (with_reducible exact LeO.none _)
   | (with_reducible refine LeO.ite ?_ ?_)
   | (with_reducible refine LeO.bind ?_ (fun _ => ?_))
   | exact ih0 _ _ _ _ _ _ _ _ _ _ _
   | exact LeO.none _
   | refine LeO.ite ?_ ?_
   | refine LeO.bind ?_ (fun _ => ?_)
def spec_l07Due.T4 : Bool × List (List Nat × List Nat) := (true,[([],[]),([],[]),([1,0],[0,1]),([2],[2]),([],[]),([4],[4]),([3,5],[3,5]),([6,5,0,1,2,3,4,5,6],[6])])
def spec_l07Due.B4 : List Nat := [0,0,3,7,0,16,63,127]
theorem spec_l07Due.tab4 : rtab .any (opsOf Tryd.f34 4) = spec_l07Due.T4 := by kernel_rfl
theorem spec_l07Due.bits4 : waitsOk spec_l07Due.T4.2 spec_l07Due.B4 = true := by kernel_rfl
def spec_l07Due.T6 : Bool × List (List Nat × List Nat) := (true,[([],[]),([],[]),([],[]),([2,1],[1,2]),([3],[3]),([0,0],[0]),([4,5,0,1,2,3,4,5],[4]),([6,0,1,2,3,4,5,6],[])])
def spec_l07Due.B6 : List Nat := [0,0,0,6,14,1,63,127]
theorem spec_l07Due.tab6 : rtab .any (opsOf Tryd.f34 6) = spec_l07Due.T6 := by kernel_rfl
theorem spec_l07Due.bits6 : waitsOk spec_l07Due.T6.2 spec_l07Due.B6 = true := by kernel_rfl
set_option maxHeartbeats 8000000 in
set_option maxRecDepth 100000 in
theorem spec_l07Due.calls (k : Nat) (a0_0 : Int) (a0_1 : Int) (A0_2 : Option Addr) (c0_2 : Nat) (l0_2 : List (S39)) (A0_3 : Option Addr) (c0_3 : Nat) (l0_3 : List (S55)) (a0_4 : Int) (a0_5 : Int) (a0_6 : Int) (a0_7 : Int) (a0_8 : Int) (a0_9 : Int) (r1 : Int) (r2 : Int) (r3 : Bool) (w : World) (hr0_2 : Kd.C k39 w A0_2 l0_2.length l0_2) (hc0_2 : l0_2.length ≤ c0_2) (hr0_3 : Kd.C k55 w A0_3 l0_3.length l0_3) (hc0_3 : l0_3.length ≤ c0_3) (h : spec_l07Due.f k a0_0 a0_1 l0_2 l0_3 a0_4 a0_5 a0_6 a0_7 a0_8 a0_9 = some (r1,r2,r3)) :
  Calls Tryd.prog 34 #[.agg #[.int .i64 a0_0,.int .i64 a0_1,.slice A0_2 l0_2.length c0_2,.slice A0_3 l0_3.length c0_3,.int .i64 a0_4,.int .i64 a0_5,.int .i64 a0_6,.int .i64 a0_7,.int .i64 a0_8,.int .i64 a0_9]] w fun e w' => e = .returned (.tuple #[.int .i64 r1,.int .i64 r2,.bool r3]) ∧ Below w.heap.size w w' := by
 have hu32 := Tryd.underlying32
 have HR0_2 := Aside0.mk hr0_2
 have HC0_2 := Aside0.mk hc0_2
 clear hr0_2 hc0_2
 have HR0_3 := Aside0.mk hr0_3
 have HC0_3 := Aside0.mk hc0_3
 clear hr0_3 hc0_3
 have HB := Aside0.mk (Below.refl w.heap.size w)
 have H : (spec_l07Due.l0 k 1 a0_0 a0_1 l0_2 l0_3 a0_4 a0_5 a0_6 a0_7 a0_8 a0_9) = some (r1,r2,r3) := h
 clear h
 have H' := Aside0.mk H
 clear H
 go_enter Tryd.func34,Tryd.ntmps34
 go_wp2_with (first | ((with_reducible refine gate_dst (N:=1) rfl ?_); refine box_event ?hg (N:=1) ?hd (cs := #[.int .i64 a0_0,.int .i64 a0_1,.slice A0_2 l0_2.length c0_2,.slice A0_3 l0_3.length c0_3,.int .i64 a0_4,.int .i64 a0_5,.int .i64 a0_6,.int .i64 a0_7,.int .i64 a0_8,.int .i64 a0_9]) (t:=32) ?hr ?_; (case hd => rfl); (case hg => rfl); (case hr => first | (go_simp; done) | (go_simp; rfl)); intro gb256 hg w2 hbox hb; have n0_ := Aside0.mk (below_step bA hb); have n1_ := Aside0.mk (hbox); have n2_ := Aside0.mk ((by rw [hg]; exact (below_size bA) : w.heap.size ≤ gb256)); have n3_ := Aside0.mk ((by rw [hg]; exact (below_size bA) : w.heap.size ≤ gb256)); clear HB; have HB := n0_; have BK256 := n1_; have GW256 := n2_; have GE256 := n3_; clear n0_ n1_ n2_ n3_; clear hb hbox hg))
 go_loopg [5] k (fun kq v5 w' => ∃ (x5_1 : Int),v5 = .int .i64 x5_1 ∧ Aside0 (spec_l07Due.l0 kq x5_1 a0_0 a0_1 l0_2 l0_3 a0_4 a0_5 a0_6 a0_7 a0_8 a0_9 = some (r1,r2,r3)) ∧ Aside0 (kq ≤ k) ∧ Aside0 (w'.heap[gb256]? = some (.cells #[.int .i64 a0_0,.int .i64 a0_1,(.slice A0_2 l0_2.length c0_2),(.slice A0_3 l0_3.length c0_3),.int .i64 a0_4,.int .i64 a0_5,.int .i64 a0_6,.int .i64 a0_7,.int .i64 a0_8,.int .i64 a0_9] 32 (0,0))) ∧ Aside0 (Below w.heap.size w w'))
 case atStart => exact ⟨(1),(by first | rfl | (simp; done) | (simp [*]; done)),H',⟨Nat.le_refl _⟩,⟨kA BK256.out⟩,⟨bA⟩⟩
 case round =>
  clear H'
  try clear p2
  obtain ⟨x5_1,rfl,HA,HK1,BK256,HB⟩ := hrel
  cases gk with
  | zero => exact absurd HA.out (by simp [spec_l07Due.l0])
  | succ k1 =>
   have H := HA.out
   clear HA
   simp only [spec_l07Due.l0] at H
   by_cases c3 : x5_1 < 3
   ·rw [if_pos c3] at H
    have c3b0 : decide (x5_1 < 3) = true := decide_eq_true c3
    clear c3
    by_cases c4 : 0 ≤ x5_1
    ·rw [if_pos c4] at H
     have c4b0 : decide (0 ≤ x5_1) = true := decide_eq_true c4
     clear c4
     replace H := Option.bind_eq_some_iff.mp H
     obtain ⟨t257,A50,H⟩ := H
     try dsimp only at H
     have A5 := Aside0.mk A50
     clear A50
     obtain ⟨ji6,hji6⟩ : ∃ j_ : Int,(wrap64 (x5_1 - 1)) = j_ := ⟨_,rfl⟩
     replace H : (if 0 ≤ (ji6) then (if (ji6) < 3 then (if (wrap64 ((at3 x5_1 a0_7 a0_8 a0_9) + t257)) ≤ (at3 (ji6) a0_7 a0_8 a0_9) then (some (x5_1,(at3 x5_1 a0_7 a0_8 a0_9),true)) else (spec_l07Due.l0 k1 (wrap64 (x5_1 + 1)) a0_0 a0_1 l0_2 l0_3 a0_4 a0_5 a0_6 a0_7 a0_8 a0_9)) else (none)) else (none)) = some (r1,r2,r3) := by first | (rw [hji6] at H; exact H) | (simp only [hji6] at H ⊢; exact H)
     (try rw [hji6] at A5)
     have hji6w : (IntKind.i64.wrap (x5_1 - 1)) = ji6 := (i64_w _).trans hji6
     by_cases c7 : 0 ≤ (ji6)
     ·rw [if_pos c7] at H
      have c7b0 : decide (0 ≤ (ji6)) = true := decide_eq_true c7
      clear c7
      by_cases c8 : (ji6) < 3
      ·rw [if_pos c8] at H
       have c8b0 : decide ((ji6) < 3) = true := decide_eq_true c8
       clear c8
       by_cases c9 : (wrap64 ((at3 x5_1 a0_7 a0_8 a0_9) + t257)) ≤ (at3 (ji6) a0_7 a0_8 a0_9)
       ·rw [if_pos c9] at H
        have c9b0 : decide ((wrap64 ((at3 x5_1 a0_7 a0_8 a0_9) + t257)) ≤ (at3 (ji6) a0_7 a0_8 a0_9)) = true := decide_eq_true c9
        clear c9
        simp only [Option.some.injEq,Prod.mk.injEq] at H
        obtain ⟨rfl,rfl,rfl⟩ := H
        try go_wp2
        have n0_ := Aside0.mk (blk_drew BK256.out)
        have n1_ := Aside0.mk (below_drew1 HB.out)
        clear BK256
        clear HB
        have BK256 := n0_
        have HB := n1_
        clear n0_ n1_
        have hia11 := ia_dyn (P:=Tryd.prog) (t:=24) (e:=3) Tryd.underlying24 (by kernel_rfl) (by kernel_rfl) gb256 7 x5_1 (of_decide_eq_true (by first | (with_reducible assumption) | assumption)) (of_decide_eq_true (by first | (with_reducible assumption) | assumption))
        refine start_ (n:=8) (S:=fun w' => w'.cell? ⟨gb256,0,none⟩ = some (.int .i64 a0_0) ∧ w'.cell? ⟨gb256,1,none⟩ = some (.int .i64 a0_1) ∧ w'.cell? ⟨gb256,2,none⟩ = some (.slice A0_2 l0_2.length c0_2) ∧ w'.cell? ⟨gb256,3,none⟩ = some (.slice A0_3 l0_3.length c0_3) ∧ w'.cell? ⟨gb256,4,none⟩ = some (.int .i64 a0_4) ∧ w'.cell? ⟨gb256,5,none⟩ = some (.int .i64 a0_5) ∧ w'.cell? ⟨gb256,6,none⟩ = some (.int .i64 a0_6) ∧ w'.cell? ⟨gb256,7,none⟩ = some (.int .i64 a0_7) ∧ w'.cell? ⟨gb256,8,none⟩ = some (.int .i64 a0_8) ∧ w'.cell? ⟨gb256,9,none⟩ = some (.int .i64 a0_9) ∧ w'.cell? ⟨gb256,7 + x5_1.toNat,none⟩ = some (.int .i64 (at3 x5_1 a0_7 a0_8 a0_9))) (ds := []) (bm 8 0) (by kernel_rfl) rfl rfl ⟨(blk_cell BK256.out 0).trans rfl,(blk_cell BK256.out 1).trans rfl,(blk_cell BK256.out 2).trans rfl,(blk_cell BK256.out 3).trans rfl,(blk_cell BK256.out 4).trans rfl,(blk_cell BK256.out 5).trans rfl,(blk_cell BK256.out 6).trans rfl,(blk_cell BK256.out 7).trans rfl,(blk_cell BK256.out 8).trans rfl,(blk_cell BK256.out 9).trans rfl,at3_cell (of_decide_eq_true (by first | (with_reducible assumption) | assumption)) (of_decide_eq_true (by first | (with_reducible assumption) | assumption)) ((blk_cell BK256.out 7).trans rfl) ((blk_cell BK256.out 8).trans rfl) ((blk_cell BK256.out 9).trans rfl)⟩ (fun hHeld => ?_); refine with_tabW spec_l07Due.tab4 spec_l07Due.bits4 (fun HT_ HW_ => ?_)
        generalize wr.drew = w10 at BK256 HB hHeld ⊢
        refine pV_ 0 11 (bm 8 1) HT_.out ?_
        refine pV_ 1 12 (bm 8 3) HT_.out ?_
        refine pV_ 2 13 (bm 8 7) HT_.out ?_
        refine pV_ 4 15 (bm 8 23) HT_.out ?_
        refine take_ (i:=3) (N:=some 14) (v:=?_) (a':=?_) (bm 8 31) rfl rfl (take_ofW HT_.out HW_.out (by kernel_rfl)) (fun _ _ _ h => h) (Or.inl ⟨by rfl,?_⟩) hHeld ?_ ?_
        rotate_left
        ·rintro w' ⟨s0,s1,s2,s3,s4,s5,s6,s7,s8,s9,s10⟩
         go_simp
         with_reducible rfl
        rotate_left
        ·simp only [Act.put,setIfInBounds_toArray,set_cons_zero,set_cons_succ,i64_w,i32_w]
         rfl
        refine one_ (i:=5) (N:=some 16) (bm 8 63) rfl rfl (one_of HT_.out (by kernel_rfl)) (by decide) (fun K hK => ?_)
        refine goes_ Tryd.func58 (by kernel_rfl) rfl #[.int .i64 x5_1] (by rfl) rfl rfl mA ?_
        with_reducible refine (spec_l04Width.calls x5_1 t257 _ A5.out).mono ?_
        rintro e w12 ⟨rfl,hb⟩
        refine ⟨_,rfl,?_⟩
        have n0_ := Aside0.mk (blk_below (g:=gb256) (o:=.cells #[.int .i64 a0_0,.int .i64 a0_1,.slice A0_2 l0_2.length c0_2,.slice A0_3 l0_3.length c0_3,.int .i64 a0_4,.int .i64 a0_5,.int .i64 a0_6,.int .i64 a0_7,.int .i64 a0_8,.int .i64 a0_9] 32 (0,0)) (kA BK256.out) hb)
        have n1_ := Aside0.mk (below_step bA hb)
        clear BK256
        clear HB
        have BK256 := n0_
        have HB := n1_
        clear n0_ n1_
        (try clear hb)
        (try clear hb2)
        (try clear hk)
        (try clear hi)
        refine hK.out _ _ ⟨(blk_cell BK256.out 0).trans rfl,(blk_cell BK256.out 1).trans rfl,(blk_cell BK256.out 2).trans rfl,(blk_cell BK256.out 3).trans rfl,(blk_cell BK256.out 4).trans rfl,(blk_cell BK256.out 5).trans rfl,(blk_cell BK256.out 6).trans rfl,(blk_cell BK256.out 7).trans rfl,(blk_cell BK256.out 8).trans rfl,(blk_cell BK256.out 9).trans rfl,at3_cell (of_decide_eq_true (by first | (with_reducible assumption) | assumption)) (of_decide_eq_true (by first | (with_reducible assumption) | assumption)) ((blk_cell BK256.out 7).trans rfl) ((blk_cell BK256.out 8).trans rfl) ((blk_cell BK256.out 9).trans rfl)⟩ (fun hHeld => ?_)
        clear hK K
        refine norm_ (a':=?_) ?_ ?_
        rotate_left
        ·show Act.put _ (some 16) _ = _
         simp only [Act.put,setIfInBounds_toArray,set_cons_zero,set_cons_succ,i64_w,i32_w]
         rfl
        refine pV_ 6 17 (bm 8 127) HT_.out ?_
        refine pV_ 7 6 (bm 8 255) HT_.out ?_
        refine done_ (done_of HT_.out (by kernel_rfl)) ?_
        have hia13 := ia_dyn (P:=Tryd.prog) (t:=24) (e:=3) Tryd.underlying24 (by kernel_rfl) (by kernel_rfl) gb256 7 (ji6) (of_decide_eq_true (by first | (with_reducible assumption) | assumption)) (of_decide_eq_true (by first | (with_reducible assumption) | assumption))
        have hcz14_0 : w12.cell? ⟨gb256,0,none⟩ = some (.int .i64 a0_0) := (blk_cell BK256.out 0).trans rfl
        have hcz14_1 : w12.cell? ⟨gb256,1,none⟩ = some (.int .i64 a0_1) := (blk_cell BK256.out 1).trans rfl
        have hcz14_2 : w12.cell? ⟨gb256,2,none⟩ = some (.slice A0_2 l0_2.length c0_2) := (blk_cell BK256.out 2).trans rfl
        have hcz14_3 : w12.cell? ⟨gb256,3,none⟩ = some (.slice A0_3 l0_3.length c0_3) := (blk_cell BK256.out 3).trans rfl
        have hcz14_4 : w12.cell? ⟨gb256,4,none⟩ = some (.int .i64 a0_4) := (blk_cell BK256.out 4).trans rfl
        have hcz14_5 : w12.cell? ⟨gb256,5,none⟩ = some (.int .i64 a0_5) := (blk_cell BK256.out 5).trans rfl
        have hcz14_6 : w12.cell? ⟨gb256,6,none⟩ = some (.int .i64 a0_6) := (blk_cell BK256.out 6).trans rfl
        have hcz14_7 : w12.cell? ⟨gb256,7,none⟩ = some (.int .i64 a0_7) := (blk_cell BK256.out 7).trans rfl
        have hcz14_8 : w12.cell? ⟨gb256,8,none⟩ = some (.int .i64 a0_8) := (blk_cell BK256.out 8).trans rfl
        have hcz14_9 : w12.cell? ⟨gb256,9,none⟩ = some (.int .i64 a0_9) := (blk_cell BK256.out 9).trans rfl
        have hfz14_0 := blk_frozen BK256.out 0
        have hfz14_1 := blk_frozen BK256.out 1
        have hfz14_2 := blk_frozen BK256.out 2
        have hfz14_3 := blk_frozen BK256.out 3
        have hfz14_4 := blk_frozen BK256.out 4
        have hfz14_5 := blk_frozen BK256.out 5
        have hfz14_6 := blk_frozen BK256.out 6
        have hfz14_7 := blk_frozen BK256.out 7
        have hfz14_8 := blk_frozen BK256.out 8
        have hfz14_9 := blk_frozen BK256.out 9
        have hca15 : w12.cell? ⟨gb256,7 + (ji6).toNat,none⟩ = some (.int .i64 (at3 (ji6) a0_7 a0_8 a0_9)) := at3_cell (of_decide_eq_true (by first | (with_reducible assumption) | assumption)) (of_decide_eq_true (by first | (with_reducible assumption) | assumption)) ((blk_cell BK256.out 7).trans rfl) ((blk_cell BK256.out 8).trans rfl) ((blk_cell BK256.out 9).trans rfl)
        try go_wp2
        have n0_ := Aside0.mk (blk_drew BK256.out)
        have n1_ := Aside0.mk (below_drew1 HB.out)
        clear BK256
        clear HB
        have BK256 := n0_
        have HB := n1_
        clear n0_ n1_
        have hia17 := ia_dyn (P:=Tryd.prog) (t:=24) (e:=3) Tryd.underlying24 (by kernel_rfl) (by kernel_rfl) gb256 7 x5_1 (of_decide_eq_true (by first | (with_reducible assumption) | assumption)) (of_decide_eq_true (by first | (with_reducible assumption) | assumption))
        refine start_ (n:=8) (S:=fun w' => w'.cell? ⟨gb256,0,none⟩ = some (.int .i64 a0_0) ∧ w'.cell? ⟨gb256,1,none⟩ = some (.int .i64 a0_1) ∧ w'.cell? ⟨gb256,2,none⟩ = some (.slice A0_2 l0_2.length c0_2) ∧ w'.cell? ⟨gb256,3,none⟩ = some (.slice A0_3 l0_3.length c0_3) ∧ w'.cell? ⟨gb256,4,none⟩ = some (.int .i64 a0_4) ∧ w'.cell? ⟨gb256,5,none⟩ = some (.int .i64 a0_5) ∧ w'.cell? ⟨gb256,6,none⟩ = some (.int .i64 a0_6) ∧ w'.cell? ⟨gb256,7,none⟩ = some (.int .i64 a0_7) ∧ w'.cell? ⟨gb256,8,none⟩ = some (.int .i64 a0_8) ∧ w'.cell? ⟨gb256,9,none⟩ = some (.int .i64 a0_9) ∧ w'.cell? ⟨gb256,7 + x5_1.toNat,none⟩ = some (.int .i64 (at3 x5_1 a0_7 a0_8 a0_9))) (ds := []) (bm 8 0) (by kernel_rfl) rfl rfl ⟨(blk_cell BK256.out 0).trans rfl,(blk_cell BK256.out 1).trans rfl,(blk_cell BK256.out 2).trans rfl,(blk_cell BK256.out 3).trans rfl,(blk_cell BK256.out 4).trans rfl,(blk_cell BK256.out 5).trans rfl,(blk_cell BK256.out 6).trans rfl,(blk_cell BK256.out 7).trans rfl,(blk_cell BK256.out 8).trans rfl,(blk_cell BK256.out 9).trans rfl,at3_cell (of_decide_eq_true (by first | (with_reducible assumption) | assumption)) (of_decide_eq_true (by first | (with_reducible assumption) | assumption)) ((blk_cell BK256.out 7).trans rfl) ((blk_cell BK256.out 8).trans rfl) ((blk_cell BK256.out 9).trans rfl)⟩ (fun hHeld => ?_); refine with_tabW spec_l07Due.tab6 spec_l07Due.bits6 (fun HT_ HW_ => ?_)
        generalize w12.drew = w16 at BK256 HB hHeld ⊢
        refine pV_ 0 25 (bm 8 1) HT_.out ?_
        refine pV_ 1 26 (bm 8 3) HT_.out ?_
        refine pV_ 2 27 (bm 8 7) HT_.out ?_
        refine pV_ 3 28 (bm 8 15) HT_.out ?_
        refine pV_ 5 2 (bm 8 47) HT_.out ?_
        refine take_ (i:=4) (N:=some 29) (v:=?_) (a':=?_) (bm 8 63) rfl rfl (take_ofW HT_.out HW_.out (by kernel_rfl)) (fun _ _ _ h => h) (Or.inl ⟨by rfl,?_⟩) hHeld ?_ ?_
        rotate_left
        ·rintro w' ⟨s0,s1,s2,s3,s4,s5,s6,s7,s8,s9,s10⟩
         go_simp
         with_reducible rfl
        rotate_left
        ·simp only [Act.put,setIfInBounds_toArray,set_cons_zero,set_cons_succ,i64_w,i32_w]
         rfl
        refine pV_ 6 3 (bm 8 127) HT_.out ?_
        refine pV_ 7 4 (bm 8 255) HT_.out ?_
        refine done_ (done_of HT_.out (by kernel_rfl)) ?_
        try go_wp2
        go_ret3
        exact ⟨by first | rfl | (simp only [i64_w,i32_w] <;> rfl) | (simp [errW_none,errW_some] <;> rfl) | (simp only [← hji6]; first | rfl | (simp [errW_none,errW_some] <;> rfl)) | (simp [*,errW_none,errW_some] <;> rfl),bA⟩
       ·rw [if_neg c9] at H
        have c9b0 : decide ((wrap64 ((at3 x5_1 a0_7 a0_8 a0_9) + t257)) ≤ (at3 (ji6) a0_7 a0_8 a0_9)) = false := decide_eq_false c9
        clear c9
        have H' := Aside0.mk H
        clear H
        try go_wp2
        have n0_ := Aside0.mk (blk_drew BK256.out)
        have n1_ := Aside0.mk (below_drew1 HB.out)
        clear BK256
        clear HB
        have BK256 := n0_
        have HB := n1_
        clear n0_ n1_
        have hia19 := ia_dyn (P:=Tryd.prog) (t:=24) (e:=3) Tryd.underlying24 (by kernel_rfl) (by kernel_rfl) gb256 7 x5_1 (of_decide_eq_true (by first | (with_reducible assumption) | assumption)) (of_decide_eq_true (by first | (with_reducible assumption) | assumption))
        refine start_ (n:=8) (S:=fun w' => w'.cell? ⟨gb256,0,none⟩ = some (.int .i64 a0_0) ∧ w'.cell? ⟨gb256,1,none⟩ = some (.int .i64 a0_1) ∧ w'.cell? ⟨gb256,2,none⟩ = some (.slice A0_2 l0_2.length c0_2) ∧ w'.cell? ⟨gb256,3,none⟩ = some (.slice A0_3 l0_3.length c0_3) ∧ w'.cell? ⟨gb256,4,none⟩ = some (.int .i64 a0_4) ∧ w'.cell? ⟨gb256,5,none⟩ = some (.int .i64 a0_5) ∧ w'.cell? ⟨gb256,6,none⟩ = some (.int .i64 a0_6) ∧ w'.cell? ⟨gb256,7,none⟩ = some (.int .i64 a0_7) ∧ w'.cell? ⟨gb256,8,none⟩ = some (.int .i64 a0_8) ∧ w'.cell? ⟨gb256,9,none⟩ = some (.int .i64 a0_9) ∧ w'.cell? ⟨gb256,7 + x5_1.toNat,none⟩ = some (.int .i64 (at3 x5_1 a0_7 a0_8 a0_9))) (ds := []) (bm 8 0) (by kernel_rfl) rfl rfl ⟨(blk_cell BK256.out 0).trans rfl,(blk_cell BK256.out 1).trans rfl,(blk_cell BK256.out 2).trans rfl,(blk_cell BK256.out 3).trans rfl,(blk_cell BK256.out 4).trans rfl,(blk_cell BK256.out 5).trans rfl,(blk_cell BK256.out 6).trans rfl,(blk_cell BK256.out 7).trans rfl,(blk_cell BK256.out 8).trans rfl,(blk_cell BK256.out 9).trans rfl,at3_cell (of_decide_eq_true (by first | (with_reducible assumption) | assumption)) (of_decide_eq_true (by first | (with_reducible assumption) | assumption)) ((blk_cell BK256.out 7).trans rfl) ((blk_cell BK256.out 8).trans rfl) ((blk_cell BK256.out 9).trans rfl)⟩ (fun hHeld => ?_); refine with_tabW spec_l07Due.tab4 spec_l07Due.bits4 (fun HT_ HW_ => ?_)
        generalize wr.drew = w18 at BK256 HB hHeld ⊢
        refine pV_ 0 11 (bm 8 1) HT_.out ?_
        refine pV_ 1 12 (bm 8 3) HT_.out ?_
        refine pV_ 2 13 (bm 8 7) HT_.out ?_
        refine pV_ 4 15 (bm 8 23) HT_.out ?_
        refine take_ (i:=3) (N:=some 14) (v:=?_) (a':=?_) (bm 8 31) rfl rfl (take_ofW HT_.out HW_.out (by kernel_rfl)) (fun _ _ _ h => h) (Or.inl ⟨by rfl,?_⟩) hHeld ?_ ?_
        rotate_left
        ·rintro w' ⟨s0,s1,s2,s3,s4,s5,s6,s7,s8,s9,s10⟩
         go_simp
         with_reducible rfl
        rotate_left
        ·simp only [Act.put,setIfInBounds_toArray,set_cons_zero,set_cons_succ,i64_w,i32_w]
         rfl
        refine one_ (i:=5) (N:=some 16) (bm 8 63) rfl rfl (one_of HT_.out (by kernel_rfl)) (by decide) (fun K hK => ?_)
        refine goes_ Tryd.func58 (by kernel_rfl) rfl #[.int .i64 x5_1] (by rfl) rfl rfl mA ?_
        with_reducible refine (spec_l04Width.calls x5_1 t257 _ A5.out).mono ?_
        rintro e w20 ⟨rfl,hb⟩
        refine ⟨_,rfl,?_⟩
        have n0_ := Aside0.mk (blk_below (g:=gb256) (o:=.cells #[.int .i64 a0_0,.int .i64 a0_1,.slice A0_2 l0_2.length c0_2,.slice A0_3 l0_3.length c0_3,.int .i64 a0_4,.int .i64 a0_5,.int .i64 a0_6,.int .i64 a0_7,.int .i64 a0_8,.int .i64 a0_9] 32 (0,0)) (kA BK256.out) hb)
        have n1_ := Aside0.mk (below_step bA hb)
        clear BK256
        clear HB
        have BK256 := n0_
        have HB := n1_
        clear n0_ n1_
        (try clear hb)
        (try clear hb2)
        (try clear hk)
        (try clear hi)
        refine hK.out _ _ ⟨(blk_cell BK256.out 0).trans rfl,(blk_cell BK256.out 1).trans rfl,(blk_cell BK256.out 2).trans rfl,(blk_cell BK256.out 3).trans rfl,(blk_cell BK256.out 4).trans rfl,(blk_cell BK256.out 5).trans rfl,(blk_cell BK256.out 6).trans rfl,(blk_cell BK256.out 7).trans rfl,(blk_cell BK256.out 8).trans rfl,(blk_cell BK256.out 9).trans rfl,at3_cell (of_decide_eq_true (by first | (with_reducible assumption) | assumption)) (of_decide_eq_true (by first | (with_reducible assumption) | assumption)) ((blk_cell BK256.out 7).trans rfl) ((blk_cell BK256.out 8).trans rfl) ((blk_cell BK256.out 9).trans rfl)⟩ (fun hHeld => ?_)
        clear hK K
        refine norm_ (a':=?_) ?_ ?_
        rotate_left
        ·show Act.put _ (some 16) _ = _
         simp only [Act.put,setIfInBounds_toArray,set_cons_zero,set_cons_succ,i64_w,i32_w]
         rfl
        refine pV_ 6 17 (bm 8 127) HT_.out ?_
        refine pV_ 7 6 (bm 8 255) HT_.out ?_
        refine done_ (done_of HT_.out (by kernel_rfl)) ?_
        have hia21 := ia_dyn (P:=Tryd.prog) (t:=24) (e:=3) Tryd.underlying24 (by kernel_rfl) (by kernel_rfl) gb256 7 (ji6) (of_decide_eq_true (by first | (with_reducible assumption) | assumption)) (of_decide_eq_true (by first | (with_reducible assumption) | assumption))
        have hcz22_0 : w20.cell? ⟨gb256,0,none⟩ = some (.int .i64 a0_0) := (blk_cell BK256.out 0).trans rfl
        have hcz22_1 : w20.cell? ⟨gb256,1,none⟩ = some (.int .i64 a0_1) := (blk_cell BK256.out 1).trans rfl
        have hcz22_2 : w20.cell? ⟨gb256,2,none⟩ = some (.slice A0_2 l0_2.length c0_2) := (blk_cell BK256.out 2).trans rfl
        have hcz22_3 : w20.cell? ⟨gb256,3,none⟩ = some (.slice A0_3 l0_3.length c0_3) := (blk_cell BK256.out 3).trans rfl
        have hcz22_4 : w20.cell? ⟨gb256,4,none⟩ = some (.int .i64 a0_4) := (blk_cell BK256.out 4).trans rfl
        have hcz22_5 : w20.cell? ⟨gb256,5,none⟩ = some (.int .i64 a0_5) := (blk_cell BK256.out 5).trans rfl
        have hcz22_6 : w20.cell? ⟨gb256,6,none⟩ = some (.int .i64 a0_6) := (blk_cell BK256.out 6).trans rfl
        have hcz22_7 : w20.cell? ⟨gb256,7,none⟩ = some (.int .i64 a0_7) := (blk_cell BK256.out 7).trans rfl
        have hcz22_8 : w20.cell? ⟨gb256,8,none⟩ = some (.int .i64 a0_8) := (blk_cell BK256.out 8).trans rfl
        have hcz22_9 : w20.cell? ⟨gb256,9,none⟩ = some (.int .i64 a0_9) := (blk_cell BK256.out 9).trans rfl
        have hfz22_0 := blk_frozen BK256.out 0
        have hfz22_1 := blk_frozen BK256.out 1
        have hfz22_2 := blk_frozen BK256.out 2
        have hfz22_3 := blk_frozen BK256.out 3
        have hfz22_4 := blk_frozen BK256.out 4
        have hfz22_5 := blk_frozen BK256.out 5
        have hfz22_6 := blk_frozen BK256.out 6
        have hfz22_7 := blk_frozen BK256.out 7
        have hfz22_8 := blk_frozen BK256.out 8
        have hfz22_9 := blk_frozen BK256.out 9
        have hca23 : w20.cell? ⟨gb256,7 + (ji6).toNat,none⟩ = some (.int .i64 (at3 (ji6) a0_7 a0_8 a0_9)) := at3_cell (of_decide_eq_true (by first | (with_reducible assumption) | assumption)) (of_decide_eq_true (by first | (with_reducible assumption) | assumption)) ((blk_cell BK256.out 7).trans rfl) ((blk_cell BK256.out 8).trans rfl) ((blk_cell BK256.out 9).trans rfl)
        try go_wp2
        go_roundg k1
        case measure => have := HK1.out; omega
        case rel => exact ⟨(wrap64 (x5_1 + 1)),(by first | rfl | (simp; done) | (simp [*]; done)),H',⟨by have := HK1.out; omega⟩,⟨kA BK256.out⟩,⟨bA⟩⟩
      ·rw [if_neg c8] at H
       exact absurd H (by simp)
     ·rw [if_neg c7] at H
      exact absurd H (by simp)
    ·rw [if_neg c4] at H
     exact absurd H (by simp)
   ·rw [if_neg c3] at H
    have c3b0 : decide (x5_1 < 3) = false := decide_eq_false c3
    clear c3
    simp only [Option.some.injEq,Prod.mk.injEq] at H
    obtain ⟨rfl,rfl,rfl⟩ := H
    go_wp2
    go_ret3
    exact ⟨by first | rfl | (simp only [i64_w,i32_w] <;> rfl) | (simp [errW_none,errW_some] <;> rfl) | (simp [*,errW_none,errW_some] <;> rfl),bA⟩

/-! ### spec_DueWindow: function 11 -/
def spec_DueWindow.f (k : Nat) (a0_0 : Int) (a0_1 : Int) (l0_2 : List (S39)) (l0_3 : List (S55)) (a0_4 : Int) (a0_5 : Int) (a0_6 : Int) (a0_7 : Int) (a0_8 : Int) (a0_9 : Int) : Option (Int × Int × Bool × Int) := (spec_StateOK.f k a0_0 a0_1 l0_2 l0_3 a0_4 a0_5 a0_6 a0_7 a0_8 a0_9).bind fun t259 => (if t259 = true then ((spec_l07Due.f k a0_0 a0_1 l0_2 l0_3 a0_4 a0_5 a0_6 a0_7 a0_8 a0_9).bind fun bt260 => (some (bt260.1,bt260.2.1,bt260.2.2,0))) else (some (0,0,false,1)))
theorem spec_DueWindow.mono : ∀ a0 a1 a2 a3 a4 a5 a6 a7 a8 a9 k,LeO (spec_DueWindow.f k a0 a1 a2 a3 a4 a5 a6 a7 a8 a9) (spec_DueWindow.f (k + 1) a0 a1 a2 a3 a4 a5 a6 a7 a8 a9) := by
 intro a0 a1 a2 a3 a4 a5 a6 a7 a8 a9 k
 unfold spec_DueWindow.f
 repeat' first
   | (with_reducible exact spec_StateOK.mono _ _ _ _ _ _ _ _ _ _ _)
   | (with_reducible exact spec_l07Due.mono _ _ _ _ _ _ _ _ _ _ _)
   | (with_reducible exact LeO.refl _)
   | (with_reducible exact LeO.none _)
   | (with_reducible refine LeO.ite ?_ ?_)
   | (with_reducible refine LeO.bind ?_ (fun _ => ?_))
   | exact spec_StateOK.mono _ _ _ _ _ _ _ _ _ _ _
   | exact spec_l07Due.mono _ _ _ _ _ _ _ _ _ _ _
   | exact LeO.none _
   | refine LeO.ite ?_ ?_
   | refine LeO.bind ?_ (fun _ => ?_)
set_option maxHeartbeats 8000000 in
set_option maxRecDepth 100000 in
theorem spec_DueWindow.calls (k : Nat) (a0_0 : Int) (a0_1 : Int) (A0_2 : Option Addr) (c0_2 : Nat) (l0_2 : List (S39)) (A0_3 : Option Addr) (c0_3 : Nat) (l0_3 : List (S55)) (a0_4 : Int) (a0_5 : Int) (a0_6 : Int) (a0_7 : Int) (a0_8 : Int) (a0_9 : Int) (r1 : Int) (r2 : Int) (r3 : Bool) (r4 : Int) (w : World) (hr0_2 : Kd.C k39 w A0_2 l0_2.length l0_2) (hc0_2 : l0_2.length ≤ c0_2) (hr0_3 : Kd.C k55 w A0_3 l0_3.length l0_3) (hc0_3 : l0_3.length ≤ c0_3) (h : spec_DueWindow.f k a0_0 a0_1 l0_2 l0_3 a0_4 a0_5 a0_6 a0_7 a0_8 a0_9 = some (r1,r2,r3,r4)) :
  Calls Tryd.prog 11 #[.agg #[.int .i64 a0_0,.int .i64 a0_1,.slice A0_2 l0_2.length c0_2,.slice A0_3 l0_3.length c0_3,.int .i64 a0_4,.int .i64 a0_5,.int .i64 a0_6,.int .i64 a0_7,.int .i64 a0_8,.int .i64 a0_9]] w fun e w' => e = .returned (.tuple #[.int .i64 r1,.int .i64 r2,.bool r3,.int .i64 r4]) ∧ Below w.heap.size w w' := by
 have hu32 := Tryd.underlying32
 have HR0_2 := Aside0.mk hr0_2
 have HC0_2 := Aside0.mk hc0_2
 clear hr0_2 hc0_2
 have HR0_3 := Aside0.mk hr0_3
 have HC0_3 := Aside0.mk hc0_3
 clear hr0_3 hc0_3
 have HB := Aside0.mk (Below.refl w.heap.size w)
 have H : ((spec_StateOK.f k a0_0 a0_1 l0_2 l0_3 a0_4 a0_5 a0_6 a0_7 a0_8 a0_9).bind fun t259 => (if t259 = true then ((spec_l07Due.f k a0_0 a0_1 l0_2 l0_3 a0_4 a0_5 a0_6 a0_7 a0_8 a0_9).bind fun bt260 => (some (bt260.1,bt260.2.1,bt260.2.2,0))) else (some (0,0,false,1)))) = some (r1,r2,r3,r4) := h
 clear h
 replace H := Option.bind_eq_some_iff.mp H
 obtain ⟨t259,A20,H⟩ := H
 try dsimp only at H
 have A2 := Aside0.mk A20
 clear A20
 by_cases c3 : t259 = true
 ·subst c3
  rw [if_pos rfl] at H
  replace H := Option.bind_eq_some_iff.mp H
  obtain ⟨⟨t260,t261,t262⟩,A40,H⟩ := H
  try dsimp only at H
  have A4 := Aside0.mk A40
  clear A40
  simp only [Option.some.injEq,Prod.mk.injEq] at H
  obtain ⟨rfl,rfl,rfl,rfl⟩ := H
  go_enter Tryd.func11,Tryd.ntmps11
  go_wp2_with (first | ((with_reducible refine gate_dst (N:=1) rfl ?_); refine box_event ?hg (N:=1) ?hd (cs := #[.int .i64 a0_0,.int .i64 a0_1,.slice A0_2 l0_2.length c0_2,.slice A0_3 l0_3.length c0_3,.int .i64 a0_4,.int .i64 a0_5,.int .i64 a0_6,.int .i64 a0_7,.int .i64 a0_8,.int .i64 a0_9]) (t:=32) ?hr ?_; (case hd => rfl); (case hg => rfl); (case hr => first | (go_simp; done) | (go_simp; rfl)); intro gb258 hg w5 hbox hb; have n0_ := Aside0.mk (below_step bA hb); have n1_ := Aside0.mk (hbox); have n2_ := Aside0.mk ((by rw [hg]; exact (below_size bA) : w.heap.size ≤ gb258)); have n3_ := Aside0.mk ((by rw [hg]; exact (below_size bA) : w.heap.size ≤ gb258)); clear HB; have HB := n0_; have BK258 := n1_; have GW258 := n2_; have GE258 := n3_; clear n0_ n1_ n2_ n3_; clear hb hbox hg; have hcz6_0 : w5.cell? ⟨gb258,0,none⟩ = some (.int .i64 a0_0) := (blk_cell BK258.out 0).trans rfl; have hcz6_1 : w5.cell? ⟨gb258,1,none⟩ = some (.int .i64 a0_1) := (blk_cell BK258.out 1).trans rfl; have hcz6_2 : w5.cell? ⟨gb258,2,none⟩ = some (.slice A0_2 l0_2.length c0_2) := (blk_cell BK258.out 2).trans rfl; have hcz6_3 : w5.cell? ⟨gb258,3,none⟩ = some (.slice A0_3 l0_3.length c0_3) := (blk_cell BK258.out 3).trans rfl; have hcz6_4 : w5.cell? ⟨gb258,4,none⟩ = some (.int .i64 a0_4) := (blk_cell BK258.out 4).trans rfl; have hcz6_5 : w5.cell? ⟨gb258,5,none⟩ = some (.int .i64 a0_5) := (blk_cell BK258.out 5).trans rfl; have hcz6_6 : w5.cell? ⟨gb258,6,none⟩ = some (.int .i64 a0_6) := (blk_cell BK258.out 6).trans rfl; have hcz6_7 : w5.cell? ⟨gb258,7,none⟩ = some (.int .i64 a0_7) := (blk_cell BK258.out 7).trans rfl; have hcz6_8 : w5.cell? ⟨gb258,8,none⟩ = some (.int .i64 a0_8) := (blk_cell BK258.out 8).trans rfl; have hcz6_9 : w5.cell? ⟨gb258,9,none⟩ = some (.int .i64 a0_9) := (blk_cell BK258.out 9).trans rfl; have hfz6_0 := blk_frozen BK258.out 0; have hfz6_1 := blk_frozen BK258.out 1; have hfz6_2 := blk_frozen BK258.out 2; have hfz6_3 := blk_frozen BK258.out 3; have hfz6_4 := blk_frozen BK258.out 4; have hfz6_5 := blk_frozen BK258.out 5; have hfz6_6 := blk_frozen BK258.out 6; have hfz6_7 := blk_frozen BK258.out 7; have hfz6_8 := blk_frozen BK258.out 8; have hfz6_9 := blk_frozen BK258.out 9) | ((with_reducible refine gate_callee (f:=7) rfl ?_); refine goesL_ (some 10) rfl rfl Tryd.func7 (by kernel_rfl) rfl #[.agg #[.int .i64 a0_0,.int .i64 a0_1,.slice A0_2 l0_2.length c0_2,.slice A0_3 l0_3.length c0_3,.int .i64 a0_4,.int .i64 a0_5,.int .i64 a0_6,.int .i64 a0_7,.int .i64 a0_8,.int .i64 a0_9]] rfl mA ?_; (with_reducible refine (spec_StateOK.calls k a0_0 a0_1 _ _ l0_2 _ _ l0_3 a0_4 a0_5 a0_6 a0_7 a0_8 a0_9 true _ ?side1 ?side2 ?side3 ?side4 A2.out).mono ?_); (case side1 => repeat (first | exact (Kd.C_below HR0_2.out HB.out) | (with_reducible refine Kd.C_alloc ?_ _) | (with_reducible refine Kd.C_drewN ?_ _) | (with_reducible refine Kd.C_drew ?_))); (case side2 => exact HC0_2.out); (case side3 => repeat (first | exact (Kd.C_below HR0_3.out HB.out) | (with_reducible refine Kd.C_alloc ?_ _) | (with_reducible refine Kd.C_drewN ?_ _) | (with_reducible refine Kd.C_drew ?_))); (case side4 => exact HC0_3.out); rintro e w7 ⟨rfl,hb⟩; refine ⟨_,rfl,?_⟩; have n0_ := Aside0.mk (blk_below (g:=gb258) (o:=.cells #[.int .i64 a0_0,.int .i64 a0_1,.slice A0_2 l0_2.length c0_2,.slice A0_3 l0_3.length c0_3,.int .i64 a0_4,.int .i64 a0_5,.int .i64 a0_6,.int .i64 a0_7,.int .i64 a0_8,.int .i64 a0_9] 32 (0,0)) (kA BK258.out) hb); have n1_ := Aside0.mk (below_step bA hb); clear BK258; clear HB; have BK258 := n0_; have HB := n1_; clear n0_ n1_; (try clear hb); (try clear hb2); (try clear hk); (try clear hi); have hcz8_0 : w7.cell? ⟨gb258,0,none⟩ = some (.int .i64 a0_0) := (blk_cell BK258.out 0).trans rfl; have hcz8_1 : w7.cell? ⟨gb258,1,none⟩ = some (.int .i64 a0_1) := (blk_cell BK258.out 1).trans rfl; have hcz8_2 : w7.cell? ⟨gb258,2,none⟩ = some (.slice A0_2 l0_2.length c0_2) := (blk_cell BK258.out 2).trans rfl; have hcz8_3 : w7.cell? ⟨gb258,3,none⟩ = some (.slice A0_3 l0_3.length c0_3) := (blk_cell BK258.out 3).trans rfl; have hcz8_4 : w7.cell? ⟨gb258,4,none⟩ = some (.int .i64 a0_4) := (blk_cell BK258.out 4).trans rfl; have hcz8_5 : w7.cell? ⟨gb258,5,none⟩ = some (.int .i64 a0_5) := (blk_cell BK258.out 5).trans rfl; have hcz8_6 : w7.cell? ⟨gb258,6,none⟩ = some (.int .i64 a0_6) := (blk_cell BK258.out 6).trans rfl; have hcz8_7 : w7.cell? ⟨gb258,7,none⟩ = some (.int .i64 a0_7) := (blk_cell BK258.out 7).trans rfl; have hcz8_8 : w7.cell? ⟨gb258,8,none⟩ = some (.int .i64 a0_8) := (blk_cell BK258.out 8).trans rfl; have hcz8_9 : w7.cell? ⟨gb258,9,none⟩ = some (.int .i64 a0_9) := (blk_cell BK258.out 9).trans rfl; have hfz8_0 := blk_frozen BK258.out 0; have hfz8_1 := blk_frozen BK258.out 1; have hfz8_2 := blk_frozen BK258.out 2; have hfz8_3 := blk_frozen BK258.out 3; have hfz8_4 := blk_frozen BK258.out 4; have hfz8_5 := blk_frozen BK258.out 5; have hfz8_6 := blk_frozen BK258.out 6; have hfz8_7 := blk_frozen BK258.out 7; have hfz8_8 := blk_frozen BK258.out 8; have hfz8_9 := blk_frozen BK258.out 9) | ((with_reducible refine gate_callee (f:=34) rfl ?_); refine goesL_ (some 14) rfl rfl Tryd.func34 (by kernel_rfl) rfl #[.agg #[.int .i64 a0_0,.int .i64 a0_1,.slice A0_2 l0_2.length c0_2,.slice A0_3 l0_3.length c0_3,.int .i64 a0_4,.int .i64 a0_5,.int .i64 a0_6,.int .i64 a0_7,.int .i64 a0_8,.int .i64 a0_9]] rfl mA ?_; (with_reducible refine (spec_l07Due.calls k a0_0 a0_1 _ _ l0_2 _ _ l0_3 a0_4 a0_5 a0_6 a0_7 a0_8 a0_9 t260 t261 t262 _ ?side1 ?side2 ?side3 ?side4 A4.out).mono ?_); (case side1 => repeat (first | exact (Kd.C_below HR0_2.out HB.out) | (with_reducible refine Kd.C_alloc ?_ _) | (with_reducible refine Kd.C_drewN ?_ _) | (with_reducible refine Kd.C_drew ?_))); (case side2 => exact HC0_2.out); (case side3 => repeat (first | exact (Kd.C_below HR0_3.out HB.out) | (with_reducible refine Kd.C_alloc ?_ _) | (with_reducible refine Kd.C_drewN ?_ _) | (with_reducible refine Kd.C_drew ?_))); (case side4 => exact HC0_3.out); rintro e w9 ⟨rfl,hb⟩; refine ⟨_,rfl,?_⟩; have n0_ := Aside0.mk (blk_below (g:=gb258) (o:=.cells #[.int .i64 a0_0,.int .i64 a0_1,.slice A0_2 l0_2.length c0_2,.slice A0_3 l0_3.length c0_3,.int .i64 a0_4,.int .i64 a0_5,.int .i64 a0_6,.int .i64 a0_7,.int .i64 a0_8,.int .i64 a0_9] 32 (0,0)) (kA BK258.out) hb); have n1_ := Aside0.mk (below_step bA hb); clear BK258; clear HB; have BK258 := n0_; have HB := n1_; clear n0_ n1_; (try clear hb); (try clear hb2); (try clear hk); (try clear hi)))
  refine bodyPost_ret (results_list (rs := [.tmp 2,.tmp 3,.tmp 4,.tmp 5]) rfl (by simp) (.tmp (.tmp (.tmp (.tmp .nil))))) rfl ?_
  exact ⟨by first | rfl | (simp [errW_none,errW_some] <;> rfl) | (simp [*,errW_none,errW_some] <;> rfl),bA⟩
 ·replace c3 := Bool.eq_false_iff.mpr c3
  subst c3
  rw [if_neg (show ¬ (false = true) by decide)] at H
  simp only [Option.some.injEq,Prod.mk.injEq] at H
  obtain ⟨rfl,rfl,rfl,rfl⟩ := H
  go_enter Tryd.func11,Tryd.ntmps11
  go_wp2_with (first | ((with_reducible refine gate_dst (N:=1) rfl ?_); refine box_event ?hg (N:=1) ?hd (cs := #[.int .i64 a0_0,.int .i64 a0_1,.slice A0_2 l0_2.length c0_2,.slice A0_3 l0_3.length c0_3,.int .i64 a0_4,.int .i64 a0_5,.int .i64 a0_6,.int .i64 a0_7,.int .i64 a0_8,.int .i64 a0_9]) (t:=32) ?hr ?_; (case hd => rfl); (case hg => rfl); (case hr => first | (go_simp; done) | (go_simp; rfl)); intro gb258 hg w10 hbox hb; have n0_ := Aside0.mk (below_step bA hb); have n1_ := Aside0.mk (hbox); have n2_ := Aside0.mk ((by rw [hg]; exact (below_size bA) : w.heap.size ≤ gb258)); have n3_ := Aside0.mk ((by rw [hg]; exact (below_size bA) : w.heap.size ≤ gb258)); clear HB; have HB := n0_; have BK258 := n1_; have GW258 := n2_; have GE258 := n3_; clear n0_ n1_ n2_ n3_; clear hb hbox hg; have hcz11_0 : w10.cell? ⟨gb258,0,none⟩ = some (.int .i64 a0_0) := (blk_cell BK258.out 0).trans rfl; have hcz11_1 : w10.cell? ⟨gb258,1,none⟩ = some (.int .i64 a0_1) := (blk_cell BK258.out 1).trans rfl; have hcz11_2 : w10.cell? ⟨gb258,2,none⟩ = some (.slice A0_2 l0_2.length c0_2) := (blk_cell BK258.out 2).trans rfl; have hcz11_3 : w10.cell? ⟨gb258,3,none⟩ = some (.slice A0_3 l0_3.length c0_3) := (blk_cell BK258.out 3).trans rfl; have hcz11_4 : w10.cell? ⟨gb258,4,none⟩ = some (.int .i64 a0_4) := (blk_cell BK258.out 4).trans rfl; have hcz11_5 : w10.cell? ⟨gb258,5,none⟩ = some (.int .i64 a0_5) := (blk_cell BK258.out 5).trans rfl; have hcz11_6 : w10.cell? ⟨gb258,6,none⟩ = some (.int .i64 a0_6) := (blk_cell BK258.out 6).trans rfl; have hcz11_7 : w10.cell? ⟨gb258,7,none⟩ = some (.int .i64 a0_7) := (blk_cell BK258.out 7).trans rfl; have hcz11_8 : w10.cell? ⟨gb258,8,none⟩ = some (.int .i64 a0_8) := (blk_cell BK258.out 8).trans rfl; have hcz11_9 : w10.cell? ⟨gb258,9,none⟩ = some (.int .i64 a0_9) := (blk_cell BK258.out 9).trans rfl; have hfz11_0 := blk_frozen BK258.out 0; have hfz11_1 := blk_frozen BK258.out 1; have hfz11_2 := blk_frozen BK258.out 2; have hfz11_3 := blk_frozen BK258.out 3; have hfz11_4 := blk_frozen BK258.out 4; have hfz11_5 := blk_frozen BK258.out 5; have hfz11_6 := blk_frozen BK258.out 6; have hfz11_7 := blk_frozen BK258.out 7; have hfz11_8 := blk_frozen BK258.out 8; have hfz11_9 := blk_frozen BK258.out 9) | ((with_reducible refine gate_callee (f:=7) rfl ?_); refine goesL_ (some 10) rfl rfl Tryd.func7 (by kernel_rfl) rfl #[.agg #[.int .i64 a0_0,.int .i64 a0_1,.slice A0_2 l0_2.length c0_2,.slice A0_3 l0_3.length c0_3,.int .i64 a0_4,.int .i64 a0_5,.int .i64 a0_6,.int .i64 a0_7,.int .i64 a0_8,.int .i64 a0_9]] rfl mA ?_; (with_reducible refine (spec_StateOK.calls k a0_0 a0_1 _ _ l0_2 _ _ l0_3 a0_4 a0_5 a0_6 a0_7 a0_8 a0_9 false _ ?side1 ?side2 ?side3 ?side4 A2.out).mono ?_); (case side1 => repeat (first | exact (Kd.C_below HR0_2.out HB.out) | (with_reducible refine Kd.C_alloc ?_ _) | (with_reducible refine Kd.C_drewN ?_ _) | (with_reducible refine Kd.C_drew ?_))); (case side2 => exact HC0_2.out); (case side3 => repeat (first | exact (Kd.C_below HR0_3.out HB.out) | (with_reducible refine Kd.C_alloc ?_ _) | (with_reducible refine Kd.C_drewN ?_ _) | (with_reducible refine Kd.C_drew ?_))); (case side4 => exact HC0_3.out); rintro e w12 ⟨rfl,hb⟩; refine ⟨_,rfl,?_⟩; have n0_ := Aside0.mk (blk_below (g:=gb258) (o:=.cells #[.int .i64 a0_0,.int .i64 a0_1,.slice A0_2 l0_2.length c0_2,.slice A0_3 l0_3.length c0_3,.int .i64 a0_4,.int .i64 a0_5,.int .i64 a0_6,.int .i64 a0_7,.int .i64 a0_8,.int .i64 a0_9] 32 (0,0)) (kA BK258.out) hb); have n1_ := Aside0.mk (below_step bA hb); clear BK258; clear HB; have BK258 := n0_; have HB := n1_; clear n0_ n1_; (try clear hb); (try clear hb2); (try clear hk); (try clear hi)))
  refine bodyPost_ret (results_list (rs := [.tmp 2,.tmp 3,.tmp 4,.tmp 5]) rfl (by simp) (.tmp (.tmp (.tmp (.tmp .nil))))) rfl ?_
  exact ⟨by first | rfl | (simp [errW_none,errW_some] <;> rfl) | (simp [*,errW_none,errW_some] <;> rfl),bA⟩

/-! ### impl_within: function 26 -/
def impl_within.f (a0 : Int) (a1 : Int) (a2 : Int) : Option (Bool) := if a1 ≤ a0 then (some (decide (a0 ≤ a2))) else (some false)
set_option maxHeartbeats 8000000 in
set_option maxRecDepth 100000 in
theorem impl_within.calls (a0 : Int) (a1 : Int) (a2 : Int) (r : Bool) (w : World) (h : impl_within.f a0 a1 a2 = some r) :
  Calls Tryd.prog 26 #[.int .i64 a0,.int .i64 a1,.int .i64 a2] w fun e w' => e = .returned (.bool r) ∧ Drawn0 w w' := by
 have H : (if a1 ≤ a0 then (some (decide (a0 ≤ a2))) else (some false)) = some r := h
 clear h
 by_cases c4 : a1 ≤ a0
 ·rw [if_pos c4] at H
  have c4b0 : decide (a1 ≤ a0) = true := decide_eq_true c4
  clear c4
  obtain rfl := Option.some.inj H
  go_enter Tryd.func26,Tryd.ntmps26
  go_wp2
  go_ret
  exact ⟨by first | rfl | (simp; done) | (simp [*]; done),by repeat (first | exact Drawn0.refl _ | apply Drawn0.step)⟩
 ·rw [if_neg c4] at H
  have c4b0 : decide (a1 ≤ a0) = false := decide_eq_false c4
  clear c4
  obtain rfl := Option.some.inj H
  go_enter Tryd.func26,Tryd.ntmps26
  go_wp2
  go_ret
  exact ⟨by first | rfl | (simp; done) | (simp [*]; done),by repeat (first | exact Drawn0.refl _ | apply Drawn0.step)⟩

/-! ### impl_isSix: function 25 -/
def impl_isSix.f (a0 : Int) : Option (Bool) := (impl_within.f a0 0 999999).bind fun t263 => (some t263)
set_option maxHeartbeats 8000000 in
set_option maxRecDepth 100000 in
theorem impl_isSix.calls (a0 : Int) (r : Bool) (w : World) (h : impl_isSix.f a0 = some r) :
  Calls Tryd.prog 25 #[.int .i64 a0] w fun e w' => e = .returned (.bool r) ∧ Drawn0 w w' := by
 have H : ((impl_within.f a0 0 999999).bind fun t263 => (some t263)) = some r := h
 clear h
 replace H := Option.bind_eq_some_iff.mp H
 obtain ⟨t263,A20,H⟩ := H
 try dsimp only at H
 have A2 := Aside0.mk A20
 clear A20
 obtain rfl := Option.some.inj H
 go_enter Tryd.func25,Tryd.ntmps25
 go_wp2_with (first | ((with_reducible refine gate_callee (f:=26) rfl ?_); refine goesL_ (some 4) rfl rfl Tryd.func26 (by kernel_rfl) rfl #[.int .i64 a0,.int .i64 0,.int .i64 999999] rfl mA ?_; (with_reducible refine (impl_within.calls a0 0 999999 t263 _ A2.out).mono ?_); rintro e w' ⟨rfl,⟨nd,rfl⟩⟩; refine ⟨_,rfl,?_⟩))
 go_ret
 exact ⟨by first | rfl | (simp; done) | (simp [*]; done),by repeat (first | exact Drawn0.refl _ | apply Drawn0.step)⟩

/-! ### impl_dataPrefixes: function 54 -/
def impl_dataPrefixes.f  : Option (List ByteArray) := some (([(⟨#[114,97,119,47]⟩ : ByteArray),(⟨#[116,49,47]⟩ : ByteArray),(⟨#[116,50,47]⟩ : ByteArray)] : List ByteArray))
set_option maxHeartbeats 8000000 in
set_option maxRecDepth 100000 in
theorem impl_dataPrefixes.calls  (r : List ByteArray) (w : World) (h : impl_dataPrefixes.f  = some r) :
  Calls Tryd.prog 54 #[] w fun e w' => ∃ v0_ : Value,e = .returned (v0_) ∧ Kd.R Kd.string 9 w' w.heap.size (fun _ => True) v0_ r ∧ Below w.heap.size w w' := by
 have HB := Aside0.mk (Below.refl w.heap.size w)
 have H : (some (([(⟨#[114,97,119,47]⟩ : ByteArray),(⟨#[116,49,47]⟩ : ByteArray),(⟨#[116,50,47]⟩ : ByteArray)] : List ByteArray))) = some r := h
 clear h
 obtain ⟨y264,hy264⟩ : ∃ y_ : List ByteArray,y_ = (([(⟨#[114,97,119,47]⟩ : ByteArray),(⟨#[116,49,47]⟩ : ByteArray),(⟨#[116,50,47]⟩ : ByteArray)] : List ByteArray)) := ⟨_,rfl⟩
 replace H : (some y264) = some r := by first | (rw [hy264]; with_reducible exact H) | (have H2_ := (Option.bind_some _ _).symm.trans H; rw [hy264]; with_reducible exact H2_) | (have H2_ := (Option.bind_some _ _).symm.trans H; with_reducible exact H2_) | with_reducible exact H | (rw [hy264]; exact H) | exact H
 have Ny264 := Aside0.mk hy264
 clear hy264
 obtain rfl := Option.some.inj H
 go_enter Tryd.func54,Tryd.ntmps54
 go_wp2_with (first | ((with_reducible refine gate_dst (N:=1) rfl ?_); refine Kd.R_lit Kd.string _ 9 ?hg (N:=1) ?hd (xs := ([(⟨#[114,97,119,47]⟩ : ByteArray),(⟨#[116,49,47]⟩ : ByteArray),(⟨#[116,50,47]⟩ : ByteArray)] : List ByteArray)) (inner := [.string (⟨#[114,97,119,47]⟩ : ByteArray),.string (⟨#[116,49,47]⟩ : ByteArray),.string (⟨#[116,50,47]⟩ : ByteArray)]) (ok := fun _ => True) (okp := fun _ => True) ?hr ?hp (fun _ hk => hk) trivial (Below.refl _ _) (Nat.le_refl _) (by simp) ?_; (case hd => rfl); (case hg => rfl); (case hr => first | (go_simp; done) | (go_simp; rfl)); (case hp => exact (Reps.one (show Kd.M Kd.string _ _ _ (⟨#[114,97,119,47]⟩ : ByteArray) [.string (⟨#[114,97,119,47]⟩ : ByteArray)] from rfl) (Reps.one (show Kd.M Kd.string _ _ _ (⟨#[116,49,47]⟩ : ByteArray) [.string (⟨#[116,49,47]⟩ : ByteArray)] from rfl) (Reps.one (show Kd.M Kd.string _ _ _ (⟨#[116,50,47]⟩ : ByteArray) [.string (⟨#[116,50,47]⟩ : ByteArray)] from rfl) (Reps.none _ _))))); intro v265 w1 ho2 hb hg_ hnew_; clear hg_ hnew_; (first | rw [← Ny264.out] at ho2 | (simp only [Int.reduceToNat] at ho2; rw [← Ny264.out] at ho2)); have n0_ := Aside0.mk (Kd.R_lower ho2 (below_size bA)); have n1_ := Aside0.mk (below_step bA hb); clear HB; have HO266 := n0_; have HB := n1_; clear n0_ n1_; clear hb ho2))
 go_ret
 exact ⟨_,by first | rfl | (simp [errW_none,errW_some] <;> rfl) | (simp [*,errW_none,errW_some] <;> rfl),rA HO266.out,bA⟩

/-! ### strings_CutPrefix: function 55 (by hand) -/
def strings_CutPrefix.f (a0 : ByteArray) (a1 : ByteArray) : Option (ByteArray × Bool) := some (⟨(Lib.trimPrefix a0.data.toList a1.data.toList).toArray⟩,Lib.hasPrefix a0.data.toList a1.data.toList)
theorem strings_CutPrefix.calls (a0 : ByteArray) (a1 : ByteArray) (r1 : ByteArray) (r2 : Bool) (w : World) (h : strings_CutPrefix.f a0 a1 = some (r1,r2)) :
  Calls Tryd.prog 55 #[.string a0,.string a1] w fun e w' => e = .returned (.tuple #[.string r1,.bool r2]) ∧ Below w.heap.size w w' := by
 unfold strings_CutPrefix.f at h
 obtain ⟨rfl,rfl⟩ := Prod.mk.inj (Option.some.inj h)
 exact (Tryd.strings_CutPrefix a0 a1 w).mono fun e w' ⟨he,hw⟩ => ⟨he,hw ▸ Below.refl _ _⟩

/-! ### strconv_Itoa: function 73 (by hand) -/
def strconv_Itoa.f (a0 : Int) : Option ByteArray := if -9223372036854775808 ≤ a0 ∧ a0 ≤ 9223372036854775807 then some ⟨(Lib.itoa a0).toArray⟩ else none
theorem strconv_Itoa.calls (a0 : Int) (r : ByteArray) (w : World) (hV : Vars w) (h : strconv_Itoa.f a0 = some r) :
  Calls Tryd.prog 73 #[.int .i64 a0] w fun e w' => e = .returned (.string r) ∧ Below w.heap.size w w' := by
 unfold strconv_Itoa.f at h
 split at h
 ·rename_i hb
  obtain rfl := Option.some.inj h
  exact (Tryd.strconv_Itoa a0 hb.1 hb.2 w hV.tab).mono fun e w' ⟨he,k,os,hw⟩ => ⟨he,hw ▸ below_grow_ w k os⟩
 ·cases h

/-! ### impl_six: function 68 -/
def impl_six.f (a0 : Int) : Option (ByteArray) := (strconv_Itoa.f (wrap64 (1000000 + a0))).bind fun t267 => (if 1 ≤ (t267.size : Int) then (some (t267.extract 1 t267.size)) else (none))
set_option maxHeartbeats 8000000 in
set_option maxRecDepth 100000 in
theorem impl_six.calls (a0 : Int) (r : ByteArray) (w : World) (hV : Vars w) (h : impl_six.f a0 = some r) :
  Calls Tryd.prog 68 #[.int .i64 a0] w fun e w' => e = .returned (.string r) ∧ Below w.heap.size w w' := by
 have HV := Aside0.mk hV
 clear hV
 have HB := Aside0.mk (Below.refl w.heap.size w)
 have H : ((strconv_Itoa.f (wrap64 (1000000 + a0))).bind fun t267 => (if 1 ≤ (t267.size : Int) then (some (t267.extract 1 t267.size)) else (none))) = some r := h
 clear h
 replace H := Option.bind_eq_some_iff.mp H
 obtain ⟨t267,A20,H⟩ := H
 try dsimp only at H
 have A2 := Aside0.mk A20
 clear A20
 by_cases c3 : 1 ≤ (t267.size : Int)
 ·rw [if_pos c3] at H
  have c3b0 := eq_true c3
  have c3b1 : decide (1 ≤ (t267.size : Int)) = true := decide_eq_true c3
  clear c3
  obtain rfl := Option.some.inj H
  go_enter Tryd.func68,Tryd.ntmps68
  go_wp2_with (first | ((with_reducible refine gate_callee (f:=73) rfl ?_); refine goesL_ (some 5) rfl rfl Tryd.func73 (by kernel_rfl) rfl #[.int .i64 (wrap64 (1000000 + a0))] rfl mA ?_; (with_reducible refine (strconv_Itoa.calls (wrap64 (1000000 + a0)) t267 _ ?side1 A2.out).mono ?_); (case side1 => exact HV.out.below bA); rintro e w4 ⟨rfl,hb⟩; refine ⟨_,rfl,?_⟩; have n0_ := Aside0.mk (below_step bA hb); clear HB; have HB := n0_; clear n0_; (try clear hb); (try clear hb2); (try clear hk); (try clear hi)))
  go_ret
  exact ⟨by first | rfl | (simp only [i64_w,i32_w] <;> rfl) | (simp [errW_none,errW_some] <;> rfl) | (simp [*,errW_none,errW_some] <;> rfl),bA⟩
 ·rw [if_neg c3] at H
  exact absurd H (by simp)

/-! ### impl_readSix: function 56 (by hand) -/
def impl_readSix.f (a0 : ByteArray) : Option (Int × Bool) := if a0.size ≤ 281474976710656 then (match Lib.atoiAll a0.data.toList with
 | .ok v => if 0 ≤ v ∧ v ≤ 999999 then (impl_six.f v).bind fun x => some (v,x.toList == a0.toList) else some (v,false)
 | .range => some (Lib.atoiSat a0.data.toList,false)
 | _ => some (0,false)) else none
set_option maxHeartbeats 8000000 in
set_option maxRecDepth 100000 in
theorem impl_readSix.calls (a0 : ByteArray) (r1 : Int) (r2 : Bool) (w : World) (hV : Vars w) (h : impl_readSix.f a0 = some (r1,r2)) :
  Calls Tryd.prog 56 #[.string a0] w fun e w' => e = .returned (.tuple #[.int .i64 r1,.bool r2]) ∧ Below w.heap.size w w' := by
 unfold impl_readSix.f at h
 split at h
 ·rename_i hsz
  rcases hA : Lib.atoiAll a0.data.toList with v | _ | _
  rotate_left
  ·rw [hA] at h
   obtain ⟨rfl,rfl⟩ := Prod.mk.inj (Option.some.inj h)
   obtain ⟨ev,hv,hev⟩ := hV.syn
   have hc := Aside0.mk (Tryd.strconv_Atoi_syntax a0 hsz (by rw [hA]; exact True.intro) ev w hv hev)
   clear hV hv hev hA hsz h
   go_enter Tryd.func56,Tryd.ntmps56
   go_wp2_with (go_at_call 67; refine hc.out.mono ?_; rintro e w1 ⟨N,rfl,hN,hcell,hb⟩; clear hN hcell; have HB := Aside0.mk hb; clear hb)
   go_ret2
   exact ⟨rfl,HB.out⟩
  ·rw [hA] at h
   obtain ⟨rfl,rfl⟩ := Prod.mk.inj (Option.some.inj h)
   obtain ⟨ev,hv,hev⟩ := hV.rng
   have hc := Aside0.mk (Tryd.strconv_Atoi_range a0 hsz hA ev w hv hev)
   clear hV hv hev hA hsz h
   generalize Lib.atoiSat a0.data.toList = z at hc
   go_enter Tryd.func56,Tryd.ntmps56
   go_wp2_with (go_at_call 67; refine hc.out.mono ?_; rintro e w1 ⟨N,rfl,hN,hcell,hb⟩; clear hN hcell; have HB := Aside0.mk hb; clear hb)
   go_ret2
   exact ⟨rfl,HB.out⟩
  ·rw [hA] at h
   have hc := Aside0.mk ((Tryd.strconv_Atoi_ok a0 (by omega) v hA w).mono fun e w' ⟨he,hw⟩ => (⟨he,by rcases hw with rfl | ⟨t,rfl⟩; exact Below.refl _ _; exact Lib.bytesWorld_below w _ t⟩ : e = _ ∧ Below w.heap.size w w'))
   have HV := Aside0.mk hV
   clear hV hA hsz
   by_cases hs : 0 ≤ v ∧ v ≤ 999999
   ·simp only [if_pos hs] at h
    obtain ⟨x,hx,h⟩ := Option.bind_eq_some_iff.mp h
    obtain ⟨rfl,rfl⟩ := Prod.mk.inj (Option.some.inj h)
    have HX := Aside0.mk hx
    have hW : Aside0 (∀ W,Calls Tryd.prog 25 #[.int .i64 v] W fun e w' => e = .returned (.bool true) ∧ Drawn0 W w') := ⟨fun W => impl_isSix.calls v _ W (by unfold impl_isSix.f impl_within.f; simp [hs.1,hs.2])⟩
    have hs := Aside0.mk hs
    clear hx h
    go_enter Tryd.func56,Tryd.ntmps56
    go_wp2_with (first
     | (go_at_call 67; refine hc.out.mono ?_; rintro e w1 ⟨rfl,hb⟩; have HB := Aside0.mk hb; clear hb)
     | (go_at_call 25; refine (hW.out _).mono ?_; rintro e w3 ⟨rfl,⟨nd,rfl⟩⟩; have HB1 := Aside0.mk (Drawn0.below_trans_ HB.out nd))
     | (go_at_call 68; refine (impl_six.calls v x _ (HV.out.below HB1.out) HX.out).mono ?_; rintro e w2 ⟨rfl,hb⟩; have HB2 := Aside0.mk (HB1.out.trans (hb.mono HB1.out.size) : Below w.heap.size w w2); clear hb))
    go_ret2
    exact ⟨rfl,HB2.out⟩
   ·simp only [if_neg hs] at h
    obtain ⟨rfl,rfl⟩ := Prod.mk.inj (Option.some.inj h)
    have hW : Aside0 (∀ W,Calls Tryd.prog 25 #[.int .i64 v] W fun e w' => e = .returned (.bool false) ∧ Drawn0 W w') := ⟨fun W => impl_isSix.calls v _ W (by unfold impl_isSix.f impl_within.f; by_cases h0 : 0 ≤ v <;> simp [h0]; omega)⟩
    have hs := Aside0.mk hs
    clear h
    go_enter Tryd.func56,Tryd.ntmps56
    go_wp2_with (first
     | (go_at_call 67; refine hc.out.mono ?_; rintro e w1 ⟨rfl,hb⟩; have HB := Aside0.mk hb; clear hb)
     | (go_at_call 25; refine (hW.out _).mono ?_; rintro e w3 ⟨rfl,⟨nd,rfl⟩⟩; have HB1 := Aside0.mk (Drawn0.below_trans_ HB.out nd)))
    go_ret2
    exact ⟨rfl,HB1.out⟩
 ·cases h

end Go.Proofs.YtfondhlknkhmmaaDoor.XFnExactDueWindow
