-- Printed by this session's own program wip/tools/xprint.py, which widens the kit's print. Not trusted: Lean checks it.
import Derived.Test.YteiolcfgaklafaaXFnAggx0
import Derived.Test.YteiolcfgaklafaaXFnAggx3
import Derived.Test.YteiolcfgaklafaaXFnAggx5
namespace Go.Proofs.Yteiolcfgaklafaa.XFnAgg
open List (setIfInBounds_toArray set_cons_zero set_cons_succ)
open Go.RowKit Go.Proofs.YteiolcfgaklafaaW.PrintWords Go.Proofs.YteiolcfgaklafaaW.PrintLast Go.Proofs.YteiolcfgaklafaaW.PrintMore
attribute [local go_sem] max2_int min2_int max_two min_two max_three min_three max_four min_four   -- for this text's walks alone
set_option linter.unusedVariables false
set_option linter.unusedSimpArgs false

/-! ### impl_MergeAgg: function 29 -/
def impl_MergeAgg.f (k : Nat) (a0_0 : Int) (a0_1 : Int) (a0_2 : Int) (a0_3 : Int) (a0_4 : Int) (a0_5 : Int) (a1_0 : Int) (a1_1 : Int) (a1_2 : Int) (a1_3 : Int) (a1_4 : Int) (a1_5 : Int) : Option (Int × Int × Int × Int × Int × Int × Int) := (impl_AggOK.f a0_0 a0_1 a0_2 a0_3 a0_4 a0_5).bind fun t223 => (if t223 = true then ((impl_AggOK.f a1_0 a1_1 a1_2 a1_3 a1_4 a1_5).bind fun t224 => ((impl_first.f k (([anyB (!t224),anyI 1,anyB (decide ((wrap64 (a0_0 + a1_0)) > 100000)),anyI 6] : List AnyV))).bind fun t228 => (if t228 = 0 then ((impl_Agg_merged.f a0_0 a0_1 a0_2 a0_3 a0_4 a0_5 a1_0 a1_1 a1_2 a1_3 a1_4 a1_5).bind fun bt229 => (some (bt229.1,bt229.2.1,bt229.2.2.1,bt229.2.2.2.1,bt229.2.2.2.2.1,bt229.2.2.2.2.2,0))) else (some (0,0,0,0,0,0,t228))))) else ((impl_first.f k (([anyB true,anyI 1,anyB (decide ((wrap64 (a0_0 + a1_0)) > 100000)),anyI 6] : List AnyV))).bind fun t238 => (if t238 = 0 then ((impl_Agg_merged.f a0_0 a0_1 a0_2 a0_3 a0_4 a0_5 a1_0 a1_1 a1_2 a1_3 a1_4 a1_5).bind fun bt239 => (some (bt239.1,bt239.2.1,bt239.2.2.1,bt239.2.2.2.1,bt239.2.2.2.2.1,bt239.2.2.2.2.2,0))) else (some (0,0,0,0,0,0,t238)))))
theorem impl_MergeAgg.mono : ∀ a0 a1 a2 a3 a4 a5 a6 a7 a8 a9 a10 a11 k,LeO (impl_MergeAgg.f k a0 a1 a2 a3 a4 a5 a6 a7 a8 a9 a10 a11) (impl_MergeAgg.f (k + 1) a0 a1 a2 a3 a4 a5 a6 a7 a8 a9 a10 a11) := by
 intro a0 a1 a2 a3 a4 a5 a6 a7 a8 a9 a10 a11 k
 unfold impl_MergeAgg.f
 repeat' first
   | (with_reducible exact impl_first.mono _ _)
   | (with_reducible exact LeO.refl _)
   | (with_reducible exact LeO.none _)
   | (with_reducible refine LeO.ite ?_ ?_)
   | (with_reducible refine LeO.bind ?_ (fun _ => ?_))
   | exact impl_first.mono _ _
   | exact LeO.none _
   | refine LeO.ite ?_ ?_
   | refine LeO.bind ?_ (fun _ => ?_)
def impl_MergeAgg.T1 : Bool × List (List Nat × List Nat) := (true,[([],[]),([0],[0]),([1],[1]),([2,1],[2]),([3],[3]),([4,3,3],[3,4]),([5,3],[3,5]),([3,6],[3,6]),([7],[7]),([],[]),([],[]),([10],[10]),([],[]),([12],[12]),([11,13],[11,13]),([14],[14]),([15],[15]),([],[]),([8,9,16,17],[8,9,16,17]),([18,5],[18]),([19,19,0,1,2,3,4,5,6,7,8,9,10,11,12,13,14,15,16,17,18,19],[19])])
def impl_MergeAgg.B1 : List Nat := [0,1,3,7,15,31,63,127,255,0,0,1024,0,4096,15360,31744,64512,0,262143,524287,1048575]
theorem impl_MergeAgg.tab1 : rtab .any (opsOf Try.f29 1) = impl_MergeAgg.T1 := by kernel_rfl
theorem impl_MergeAgg.bits1 : waitsOk impl_MergeAgg.T1.2 impl_MergeAgg.B1 = true := by kernel_rfl
set_option maxHeartbeats 8000000 in
set_option maxRecDepth 100000 in
theorem impl_MergeAgg.calls (k : Nat) (a0_0 : Int) (a0_1 : Int) (a0_2 : Int) (a0_3 : Int) (a0_4 : Int) (a0_5 : Int) (a1_0 : Int) (a1_1 : Int) (a1_2 : Int) (a1_3 : Int) (a1_4 : Int) (a1_5 : Int) (r1 : Int) (r2 : Int) (r3 : Int) (r4 : Int) (r5 : Int) (r6 : Int) (r7 : Int) (w : World) (h : impl_MergeAgg.f k a0_0 a0_1 a0_2 a0_3 a0_4 a0_5 a1_0 a1_1 a1_2 a1_3 a1_4 a1_5 = some (r1,r2,r3,r4,r5,r6,r7)) :
  Calls Try.prog 29 #[.agg #[.int .i64 a0_0,.int .i64 a0_1,.int .i64 a0_2,.int .i64 a0_3,.int .i64 a0_4,.int .i64 a0_5],.agg #[.int .i64 a1_0,.int .i64 a1_1,.int .i64 a1_2,.int .i64 a1_3,.int .i64 a1_4,.int .i64 a1_5]] w fun e w' => e = .returned (.tuple #[.agg #[.int .i64 r1,.int .i64 r2,.int .i64 r3,.int .i64 r4,.int .i64 r5,.int .i64 r6],.int .i64 r7]) ∧ Below w.heap.size w w' := by
 have hu54 := Try.underlying54
 have hua20 := Try.underlying20
 have HB := Aside0.mk (Below.refl w.heap.size w)
 have H : ((impl_AggOK.f a0_0 a0_1 a0_2 a0_3 a0_4 a0_5).bind fun t223 => (if t223 = true then ((impl_AggOK.f a1_0 a1_1 a1_2 a1_3 a1_4 a1_5).bind fun t224 => ((impl_first.f k (([anyB (!t224),anyI 1,anyB (decide ((wrap64 (a0_0 + a1_0)) > 100000)),anyI 6] : List AnyV))).bind fun t228 => (if t228 = 0 then ((impl_Agg_merged.f a0_0 a0_1 a0_2 a0_3 a0_4 a0_5 a1_0 a1_1 a1_2 a1_3 a1_4 a1_5).bind fun bt229 => (some (bt229.1,bt229.2.1,bt229.2.2.1,bt229.2.2.2.1,bt229.2.2.2.2.1,bt229.2.2.2.2.2,0))) else (some (0,0,0,0,0,0,t228))))) else ((impl_first.f k (([anyB true,anyI 1,anyB (decide ((wrap64 (a0_0 + a1_0)) > 100000)),anyI 6] : List AnyV))).bind fun t238 => (if t238 = 0 then ((impl_Agg_merged.f a0_0 a0_1 a0_2 a0_3 a0_4 a0_5 a1_0 a1_1 a1_2 a1_3 a1_4 a1_5).bind fun bt239 => (some (bt239.1,bt239.2.1,bt239.2.2.1,bt239.2.2.2.1,bt239.2.2.2.2.1,bt239.2.2.2.2.2,0))) else (some (0,0,0,0,0,0,t238)))))) = some (r1,r2,r3,r4,r5,r6,r7) := h
 clear h
 replace H := Option.bind_eq_some_iff.mp H
 obtain ⟨t223,A30,H⟩ := H
 try dsimp only at H
 have A3 := Aside0.mk A30
 clear A30
 by_cases c4 : t223 = true
 ·subst c4
  rw [if_pos rfl] at H
  replace H := Option.bind_eq_some_iff.mp H
  obtain ⟨t224,A50,H⟩ := H
  try dsimp only at H
  have A5 := Aside0.mk A50
  clear A50
  obtain ⟨y225,hy225⟩ : ∃ y_ : List AnyV,y_ = (([anyB (!t224),anyI 1,anyB (decide ((wrap64 (a0_0 + a1_0)) > 100000)),anyI 6] : List AnyV)) := ⟨_,rfl⟩
  replace H : ((impl_first.f k y225).bind fun t228 => (if t228 = 0 then ((impl_Agg_merged.f a0_0 a0_1 a0_2 a0_3 a0_4 a0_5 a1_0 a1_1 a1_2 a1_3 a1_4 a1_5).bind fun bt229 => (some (bt229.1,bt229.2.1,bt229.2.2.1,bt229.2.2.2.1,bt229.2.2.2.2.1,bt229.2.2.2.2.2,0))) else (some (0,0,0,0,0,0,t228)))) = some (r1,r2,r3,r4,r5,r6,r7) := by first | (rw [hy225]; with_reducible exact H) | (have H2_ := (Option.bind_some _ _).symm.trans H; rw [hy225]; with_reducible exact H2_) | (have H2_ := (Option.bind_some _ _).symm.trans H; with_reducible exact H2_) | with_reducible exact H | (rw [hy225]; exact H) | exact H
  have Ny225 := Aside0.mk hy225
  clear hy225
  replace H := Option.bind_eq_some_iff.mp H
  obtain ⟨t228,A60,H⟩ := H
  try dsimp only at H
  have A6 := Aside0.mk A60
  clear A60
  by_cases c7 : t228 = 0
  ·rw [if_pos c7] at H
   have c7b0 : (t228 == 0) = true := beq_iff_eq.mpr c7
   have c7b1 : (t228 != 0) = false := bne_eq_false_iff_eq.mpr c7
   clear c7
   replace H := Option.bind_eq_some_iff.mp H
   obtain ⟨⟨t229,t230,t231,t232,t233,t234⟩,A80,H⟩ := H
   try dsimp only at H
   have A8 := Aside0.mk A80
   clear A80
   simp only [Option.some.injEq,Prod.mk.injEq] at H
   obtain ⟨rfl,rfl,rfl,rfl,rfl,rfl,rfl⟩ := H
   go_enter Try.func29,Try.ntmps29
   try go_wp2_with (first | ((with_reducible refine gate_dst (N:=2) rfl ?_); refine box_event ?hg (N:=2) ?hd (cs := #[.int .i64 a0_0,.int .i64 a0_1,.int .i64 a0_2,.int .i64 a0_3,.int .i64 a0_4,.int .i64 a0_5]) (t:=54) ?hr ?_; (case hd => rfl); (case hg => rfl); (case hr => first | (go_simp; done) | (go_simp; rfl)); intro gb220 hg w9 hbox hb; have n0_ := Aside0.mk (below_step bA hb); have n1_ := Aside0.mk (hbox); have n2_ := Aside0.mk ((by rw [hg]; exact (below_size bA) : w.heap.size ≤ gb220)); have n3_ := Aside0.mk ((by rw [hg]; exact (below_size bA) : w.heap.size ≤ gb220)); clear HB; have HB := n0_; have BK220 := n1_; have GW220 := n2_; have GE220 := n3_; clear n0_ n1_ n2_ n3_; clear hb hbox hg) | ((with_reducible refine gate_dst (N:=3) rfl ?_); refine box_event ?hg (N:=3) ?hd (cs := #[.int .i64 a1_0,.int .i64 a1_1,.int .i64 a1_2,.int .i64 a1_3,.int .i64 a1_4,.int .i64 a1_5]) (t:=54) ?hr ?_; (case hd => rfl); (case hg => rfl); (case hr => first | (go_simp; done) | (go_simp; rfl)); intro gb221 hg w10 hbox hb; have n0_ := Aside0.mk (blk_below (g:=gb220) (o:=.cells #[.int .i64 a0_0,.int .i64 a0_1,.int .i64 a0_2,.int .i64 a0_3,.int .i64 a0_4,.int .i64 a0_5] 54 (0,0)) (kA BK220.out) hb); have n1_ := Aside0.mk (below_step bA hb); have n2_ := Aside0.mk (hbox); have n3_ := Aside0.mk ((by rw [hg]; exact (below_size bA) : w.heap.size ≤ gb221)); have n4_ := Aside0.mk ((by rw [hg]; exact (below_size bA) : w.heap.size ≤ gb221)); have n5_ := Aside0.mk ((by rw [hg]; exact Nat.ne_of_lt (blk_lt (g:=gb220) (o:=.cells #[.int .i64 a0_0,.int .i64 a0_1,.int .i64 a0_2,.int .i64 a0_3,.int .i64 a0_4,.int .i64 a0_5] 54 (0,0)) (kA BK220.out)) : gb220 ≠ gb221)); have n6_ := Aside0.mk ((by rw [hg]; exact Nat.ne_of_gt (blk_lt (g:=gb220) (o:=.cells #[.int .i64 a0_0,.int .i64 a0_1,.int .i64 a0_2,.int .i64 a0_3,.int .i64 a0_4,.int .i64 a0_5] 54 (0,0)) (kA BK220.out)) : gb221 ≠ gb220)); clear BK220; clear HB; have BK220 := n0_; have HB := n1_; have BK221 := n2_; have GW221 := n3_; have GE221 := n4_; have NB220_221 := n5_; have NB221_220 := n6_; clear n0_ n1_ n2_ n3_ n4_ n5_ n6_; clear hb hbox hg) | ((with_reducible refine gate_dst (N:=4) rfl ?_); refine box_event ?hg (N:=4) ?hd (cs := #[.int .i64 0,.int .i64 0,.int .i64 0,.int .i64 0,.int .i64 0,.int .i64 0]) (t:=54) ?hr ?_; (case hd => rfl); (case hg => rfl); (case hr => first | (go_simp; done) | (go_simp; rfl)); intro gb222 hg w11 hbox hb; have n0_ := Aside0.mk (blk_below (g:=gb220) (o:=.cells #[.int .i64 a0_0,.int .i64 a0_1,.int .i64 a0_2,.int .i64 a0_3,.int .i64 a0_4,.int .i64 a0_5] 54 (0,0)) (kA BK220.out) hb); have n1_ := Aside0.mk (blk_below (g:=gb221) (o:=.cells #[.int .i64 a1_0,.int .i64 a1_1,.int .i64 a1_2,.int .i64 a1_3,.int .i64 a1_4,.int .i64 a1_5] 54 (0,0)) (kA BK221.out) hb); have n2_ := Aside0.mk (below_step bA hb); have n3_ := Aside0.mk (hbox); have n4_ := Aside0.mk ((by rw [hg]; exact (below_size bA) : w.heap.size ≤ gb222)); have n5_ := Aside0.mk ((by rw [hg]; exact (below_size bA) : w.heap.size ≤ gb222)); have n6_ := Aside0.mk ((by rw [hg]; exact Nat.ne_of_lt (blk_lt (g:=gb220) (o:=.cells #[.int .i64 a0_0,.int .i64 a0_1,.int .i64 a0_2,.int .i64 a0_3,.int .i64 a0_4,.int .i64 a0_5] 54 (0,0)) (kA BK220.out)) : gb220 ≠ gb222)); have n7_ := Aside0.mk ((by rw [hg]; exact Nat.ne_of_gt (blk_lt (g:=gb220) (o:=.cells #[.int .i64 a0_0,.int .i64 a0_1,.int .i64 a0_2,.int .i64 a0_3,.int .i64 a0_4,.int .i64 a0_5] 54 (0,0)) (kA BK220.out)) : gb222 ≠ gb220)); have n8_ := Aside0.mk ((by rw [hg]; exact Nat.ne_of_lt (blk_lt (g:=gb221) (o:=.cells #[.int .i64 a1_0,.int .i64 a1_1,.int .i64 a1_2,.int .i64 a1_3,.int .i64 a1_4,.int .i64 a1_5] 54 (0,0)) (kA BK221.out)) : gb221 ≠ gb222)); have n9_ := Aside0.mk ((by rw [hg]; exact Nat.ne_of_gt (blk_lt (g:=gb221) (o:=.cells #[.int .i64 a1_0,.int .i64 a1_1,.int .i64 a1_2,.int .i64 a1_3,.int .i64 a1_4,.int .i64 a1_5] 54 (0,0)) (kA BK221.out)) : gb222 ≠ gb221)); clear BK220; clear BK221; clear HB; have BK220 := n0_; have BK221 := n1_; have HB := n2_; have BK222 := n3_; have GW222 := n4_; have GE222 := n5_; have NB220_222 := n6_; have NB222_220 := n7_; have NB221_222 := n8_; have NB222_221 := n9_; clear n0_ n1_ n2_ n3_ n4_ n5_ n6_ n7_ n8_ n9_; clear hb hbox hg))
   have n0_ := Aside0.mk (blk_drew BK220.out)
   have n1_ := Aside0.mk (blk_drew BK221.out)
   have n2_ := Aside0.mk (blk_drew BK222.out)
   have n3_ := Aside0.mk (below_drew1 HB.out)
   clear BK220
   clear BK221
   clear BK222
   clear HB
   have BK220 := n0_
   have BK221 := n1_
   have BK222 := n2_
   have HB := n3_
   clear n0_ n1_ n2_ n3_
   refine start_ (n:=21) (S:=fun w' => w'.cell? ⟨gb220,0,none⟩ = some (.int .i64 a0_0) ∧ w'.cell? ⟨gb220,1,none⟩ = some (.int .i64 a0_1) ∧ w'.cell? ⟨gb220,2,none⟩ = some (.int .i64 a0_2) ∧ w'.cell? ⟨gb220,3,none⟩ = some (.int .i64 a0_3) ∧ w'.cell? ⟨gb220,4,none⟩ = some (.int .i64 a0_4) ∧ w'.cell? ⟨gb220,5,none⟩ = some (.int .i64 a0_5) ∧ w'.cell? ⟨gb221,0,none⟩ = some (.int .i64 a1_0) ∧ w'.cell? ⟨gb221,1,none⟩ = some (.int .i64 a1_1) ∧ w'.cell? ⟨gb221,2,none⟩ = some (.int .i64 a1_2) ∧ w'.cell? ⟨gb221,3,none⟩ = some (.int .i64 a1_3) ∧ w'.cell? ⟨gb221,4,none⟩ = some (.int .i64 a1_4) ∧ w'.cell? ⟨gb221,5,none⟩ = some (.int .i64 a1_5)) (ds := []) (bm 21 0) (by kernel_rfl) rfl rfl ⟨(blk_cell BK220.out 0).trans rfl,(blk_cell BK220.out 1).trans rfl,(blk_cell BK220.out 2).trans rfl,(blk_cell BK220.out 3).trans rfl,(blk_cell BK220.out 4).trans rfl,(blk_cell BK220.out 5).trans rfl,(blk_cell BK221.out 0).trans rfl,(blk_cell BK221.out 1).trans rfl,(blk_cell BK221.out 2).trans rfl,(blk_cell BK221.out 3).trans rfl,(blk_cell BK221.out 4).trans rfl,(blk_cell BK221.out 5).trans rfl⟩ (fun hHeld => ?_); refine with_tabW impl_MergeAgg.tab1 impl_MergeAgg.bits1 (fun HT_ HW_ => ?_)
   generalize w11.drew = w12 at BK220 BK221 BK222 HB hHeld ⊢
   refine pV_ 9 16 (bm 21 512) HT_.out ?_
   refine pV_ 10 17 (bm 21 1536) HT_.out ?_
   refine pV_ 12 19 (bm 21 5632) HT_.out ?_
   refine pV_ 17 24 (bm 21 136704) HT_.out ?_
   refine take_ (i:=0) (N:=some 7) (v:=?_) (a':=?_) (bm 21 136705) rfl rfl (take_ofW HT_.out HW_.out (by kernel_rfl)) (fun _ _ _ h => h) (Or.inl ⟨by rfl,?_⟩) hHeld ?_ ?_
   rotate_left
   ·rintro w' ⟨s0,s1,s2,s3,s4,s5,s6,s7,s8,s9,s10,s11⟩
    go_simp
    with_reducible rfl
   rotate_left
   ·simp only [Act.put,setIfInBounds_toArray,set_cons_zero,set_cons_succ,i64_w,i32_w]
    rfl
   refine take_ (i:=11) (N:=some 18) (v:=?_) (a':=?_) (bm 21 138753) rfl rfl (take_ofW HT_.out HW_.out (by kernel_rfl)) (fun _ _ _ h => h) (Or.inl ⟨by rfl,?_⟩) hHeld ?_ ?_
   rotate_left
   ·rintro w' ⟨s0,s1,s2,s3,s4,s5,s6,s7,s8,s9,s10,s11⟩
    go_simp
    with_reducible rfl
   rotate_left
   ·simp only [Act.put,setIfInBounds_toArray,set_cons_zero,set_cons_succ,i64_w,i32_w]
    rfl
   refine take_ (i:=13) (N:=some 20) (v:=?_) (a':=?_) (bm 21 146945) rfl rfl (take_ofW HT_.out HW_.out (by kernel_rfl)) (fun _ _ _ h => h) (Or.inl ⟨by rfl,?_⟩) hHeld ?_ ?_
   rotate_left
   ·rintro w' ⟨s0,s1,s2,s3,s4,s5,s6,s7,s8,s9,s10,s11⟩
    go_simp
    with_reducible rfl
   rotate_left
   ·simp only [Act.put,setIfInBounds_toArray,set_cons_zero,set_cons_succ,i64_w,i32_w]
    rfl
   refine pV_ 14 21 (bm 21 163329) HT_.out ?_
   refine pV_ 15 22 (bm 21 196097) HT_.out ?_
   refine pV_ 16 23 (bm 21 261633) HT_.out ?_
   refine one_ (i:=1) (N:=some 8) (bm 21 261635) rfl rfl (one_of HT_.out (by kernel_rfl)) (by decide) (fun K hK => ?_)
   refine goes_ Try.func30 (by kernel_rfl) rfl #[.agg #[.int .i64 a0_0,.int .i64 a0_1,.int .i64 a0_2,.int .i64 a0_3,.int .i64 a0_4,.int .i64 a0_5]] (by rfl) rfl rfl mA ?_
   with_reducible refine (impl_AggOK.calls a0_0 a0_1 a0_2 a0_3 a0_4 a0_5 true _ A3.out).mono ?_
   rintro e w13 ⟨rfl,hb⟩
   refine ⟨_,rfl,?_⟩
   have n0_ := Aside0.mk (blk_below (g:=gb220) (o:=.cells #[.int .i64 a0_0,.int .i64 a0_1,.int .i64 a0_2,.int .i64 a0_3,.int .i64 a0_4,.int .i64 a0_5] 54 (0,0)) (kA BK220.out) hb)
   have n1_ := Aside0.mk (blk_below (g:=gb221) (o:=.cells #[.int .i64 a1_0,.int .i64 a1_1,.int .i64 a1_2,.int .i64 a1_3,.int .i64 a1_4,.int .i64 a1_5] 54 (0,0)) (kA BK221.out) hb)
   have n2_ := Aside0.mk (blk_below (g:=gb222) (o:=.cells #[.int .i64 0,.int .i64 0,.int .i64 0,.int .i64 0,.int .i64 0,.int .i64 0] 54 (0,0)) (kA BK222.out) hb)
   have n3_ := Aside0.mk (below_step bA hb)
   clear BK220
   clear BK221
   clear BK222
   clear HB
   have BK220 := n0_
   have BK221 := n1_
   have BK222 := n2_
   have HB := n3_
   clear n0_ n1_ n2_ n3_
   (try clear hb)
   (try clear hb2)
   (try clear hk)
   (try clear hi)
   refine hK.out _ _ ⟨(blk_cell BK220.out 0).trans rfl,(blk_cell BK220.out 1).trans rfl,(blk_cell BK220.out 2).trans rfl,(blk_cell BK220.out 3).trans rfl,(blk_cell BK220.out 4).trans rfl,(blk_cell BK220.out 5).trans rfl,(blk_cell BK221.out 0).trans rfl,(blk_cell BK221.out 1).trans rfl,(blk_cell BK221.out 2).trans rfl,(blk_cell BK221.out 3).trans rfl,(blk_cell BK221.out 4).trans rfl,(blk_cell BK221.out 5).trans rfl⟩ (fun hHeld => ?_)
   clear hK K
   refine norm_ (a':=?_) ?_ ?_
   rotate_left
   ·show Act.put _ (some 8) _ = _
    simp only [Act.put,setIfInBounds_toArray,set_cons_zero,set_cons_succ,i64_w,i32_w]
    rfl
   refine pV_ 2 9 (bm 21 261639) HT_.out ?_
   refine pV_ 3 10 (bm 21 261647) HT_.out ?_
   refine take_ (i:=4) (N:=some 11) (v:=?_) (a':=?_) (bm 21 261663) rfl rfl (take_ofW HT_.out HW_.out (by kernel_rfl)) (fun _ _ _ h => h) (Or.inl ⟨by rfl,?_⟩) hHeld ?_ ?_
   rotate_left
   ·rintro w' ⟨s0,s1,s2,s3,s4,s5,s6,s7,s8,s9,s10,s11⟩
    go_simp
    with_reducible rfl
   rotate_left
   ·simp only [Act.put,setIfInBounds_toArray,set_cons_zero,set_cons_succ,i64_w,i32_w]
    rfl
   refine one_ (i:=5) (N:=some 12) (bm 21 261695) rfl rfl (one_of HT_.out (by kernel_rfl)) (by decide) (fun K hK => ?_)
   refine goes_ Try.func30 (by kernel_rfl) rfl #[.agg #[.int .i64 a1_0,.int .i64 a1_1,.int .i64 a1_2,.int .i64 a1_3,.int .i64 a1_4,.int .i64 a1_5]] (by rfl) rfl rfl mA ?_
   with_reducible refine (impl_AggOK.calls a1_0 a1_1 a1_2 a1_3 a1_4 a1_5 t224 _ A5.out).mono ?_
   rintro e w14 ⟨rfl,hb⟩
   refine ⟨_,rfl,?_⟩
   have n0_ := Aside0.mk (blk_below (g:=gb220) (o:=.cells #[.int .i64 a0_0,.int .i64 a0_1,.int .i64 a0_2,.int .i64 a0_3,.int .i64 a0_4,.int .i64 a0_5] 54 (0,0)) (kA BK220.out) hb)
   have n1_ := Aside0.mk (blk_below (g:=gb221) (o:=.cells #[.int .i64 a1_0,.int .i64 a1_1,.int .i64 a1_2,.int .i64 a1_3,.int .i64 a1_4,.int .i64 a1_5] 54 (0,0)) (kA BK221.out) hb)
   have n2_ := Aside0.mk (blk_below (g:=gb222) (o:=.cells #[.int .i64 0,.int .i64 0,.int .i64 0,.int .i64 0,.int .i64 0,.int .i64 0] 54 (0,0)) (kA BK222.out) hb)
   have n3_ := Aside0.mk (below_step bA hb)
   clear BK220
   clear BK221
   clear BK222
   clear HB
   have BK220 := n0_
   have BK221 := n1_
   have BK222 := n2_
   have HB := n3_
   clear n0_ n1_ n2_ n3_
   (try clear hb)
   (try clear hb2)
   (try clear hk)
   (try clear hi)
   refine hK.out _ _ ⟨(blk_cell BK220.out 0).trans rfl,(blk_cell BK220.out 1).trans rfl,(blk_cell BK220.out 2).trans rfl,(blk_cell BK220.out 3).trans rfl,(blk_cell BK220.out 4).trans rfl,(blk_cell BK220.out 5).trans rfl,(blk_cell BK221.out 0).trans rfl,(blk_cell BK221.out 1).trans rfl,(blk_cell BK221.out 2).trans rfl,(blk_cell BK221.out 3).trans rfl,(blk_cell BK221.out 4).trans rfl,(blk_cell BK221.out 5).trans rfl⟩ (fun hHeld => ?_)
   clear hK K
   refine norm_ (a':=?_) ?_ ?_
   rotate_left
   ·show Act.put _ (some 12) _ = _
    simp only [Act.put,setIfInBounds_toArray,set_cons_zero,set_cons_succ,i64_w,i32_w]
    rfl
   refine pV_ 6 13 (bm 21 261759) HT_.out ?_
   refine pV_ 7 14 (bm 21 261887) HT_.out ?_
   refine pV_ 8 15 (bm 21 262143) HT_.out ?_
   refine one_ (i:=18) (N:=some 25) (bm 21 524287) rfl rfl (one_of HT_.out (by kernel_rfl)) (by decide) (fun K hK => ?_)
   refine Kd.R_lit_step kAny _ 20 ?hg (N:=25) ?hd (xs := ([anyB (!t224),anyI 1,anyB (decide ((wrap64 (a0_0 + a1_0)) > 100000)),anyI 6] : List AnyV)) (inner := [.iface 4 (.bool (!t224)),.iface 3 (.int .i64 1),.iface 4 (.bool (decide ((wrap64 (a0_0 + a1_0)) > 100000))),.iface 3 (.int .i64 6)]) (ok := fun _ => True) (okp := fun _ => True) ?hr ?hp (fun _ hk => hk) trivial (Below.refl _ _) (Nat.le_refl _) (by simp) ?_; (case hd => rfl); (case hg => rfl); (case hr => first | (go_simp; done) | (go_simp; rfl)); (case hp => exact (Reps.one (show Kd.M kAny _ _ _ (anyB (!t224)) [.iface 4 (.bool (!t224))] from rfl) (Reps.one (show Kd.M kAny _ _ _ (anyI 1) [.iface 3 (.int .i64 1)] from rfl) (Reps.one (show Kd.M kAny _ _ _ (anyB (decide ((wrap64 (a0_0 + a1_0)) > 100000))) [.iface 4 (.bool (decide ((wrap64 (a0_0 + a1_0)) > 100000)))] from rfl) (Reps.one (show Kd.M kAny _ _ _ (anyI 6) [.iface 3 (.int .i64 6)] from rfl) (Reps.none _ _))))))
   intro v226 w15 ho16 hb hg_ hnew_
   clear hg_ hnew_
   (first | rw [← Ny225.out] at ho16 | (simp only [Int.reduceToNat] at ho16; rw [← Ny225.out] at ho16))
   have n0_ := Aside0.mk (Kd.R_lower ho16 (below_size bA))
   have n1_ := Aside0.mk (blk_below (g:=gb220) (o:=.cells #[.int .i64 a0_0,.int .i64 a0_1,.int .i64 a0_2,.int .i64 a0_3,.int .i64 a0_4,.int .i64 a0_5] 54 (0,0)) (kA BK220.out) hb)
   have n2_ := Aside0.mk (blk_below (g:=gb221) (o:=.cells #[.int .i64 a1_0,.int .i64 a1_1,.int .i64 a1_2,.int .i64 a1_3,.int .i64 a1_4,.int .i64 a1_5] 54 (0,0)) (kA BK221.out) hb)
   have n3_ := Aside0.mk (blk_below (g:=gb222) (o:=.cells #[.int .i64 0,.int .i64 0,.int .i64 0,.int .i64 0,.int .i64 0,.int .i64 0] 54 (0,0)) (kA BK222.out) hb)
   have n4_ := Aside0.mk (below_step bA hb)
   clear BK220
   clear BK221
   clear BK222
   clear HB
   have HO227 := n0_
   have BK220 := n1_
   have BK221 := n2_
   have BK222 := n3_
   have HB := n4_
   clear n0_ n1_ n2_ n3_ n4_
   clear hb ho16
   obtain ⟨Ao17,co17,eo17⟩ := Kd.R_slice HO227.out
   (first | subst eo17 | (injection eo17 with f1_ f2_ f3_; have f4_ := f1_.symm; have f5_ := f3_.symm; clear f1_ f2_ f3_; subst f4_; subst f5_))
   refine hK.out _ _ ⟨(blk_cell BK220.out 0).trans rfl,(blk_cell BK220.out 1).trans rfl,(blk_cell BK220.out 2).trans rfl,(blk_cell BK220.out 3).trans rfl,(blk_cell BK220.out 4).trans rfl,(blk_cell BK220.out 5).trans rfl,(blk_cell BK221.out 0).trans rfl,(blk_cell BK221.out 1).trans rfl,(blk_cell BK221.out 2).trans rfl,(blk_cell BK221.out 3).trans rfl,(blk_cell BK221.out 4).trans rfl,(blk_cell BK221.out 5).trans rfl⟩ (fun hHeld => ?_)
   clear hK K
   refine norm_ (a':=?_) ?_ ?_
   rotate_left
   ·show Act.put _ (some 25) _ = _
    simp only [Act.put,setIfInBounds_toArray,set_cons_zero,set_cons_succ,i64_w,i32_w]
    rfl
   refine one_ (i:=19) (N:=some 26) (bm 21 1048575) rfl rfl (one_of HT_.out (by kernel_rfl)) (by decide) (fun K hK => ?_)
   refine goes_ Try.func51 (by kernel_rfl) rfl #[.slice Ao17 y225.length co17] (by rfl) rfl rfl mA ?_
   with_reducible refine (impl_first.calls k _ _ y225 t228 _ ?side1 ?side2 A6.out).mono ?_
   (case side1 => repeat (first | exact (Kd.R_reads' HO227.out).2.2 | (with_reducible refine Kd.C_alloc ?_ _) | (with_reducible refine Kd.C_drewN ?_ _) | (with_reducible refine Kd.C_drew ?_)))
   (case side2 => exact (Kd.R_reads' HO227.out).2.1)
   rintro e w' ⟨rfl,⟨nd,rfl⟩⟩
   refine ⟨_,rfl,?_⟩
   refine hK.out _ _ ⟨(blk_cell BK220.out 0).trans rfl,(blk_cell BK220.out 1).trans rfl,(blk_cell BK220.out 2).trans rfl,(blk_cell BK220.out 3).trans rfl,(blk_cell BK220.out 4).trans rfl,(blk_cell BK220.out 5).trans rfl,(blk_cell BK221.out 0).trans rfl,(blk_cell BK221.out 1).trans rfl,(blk_cell BK221.out 2).trans rfl,(blk_cell BK221.out 3).trans rfl,(blk_cell BK221.out 4).trans rfl,(blk_cell BK221.out 5).trans rfl⟩ (fun hHeld => ?_)
   clear hK K
   refine norm_ (a':=?_) ?_ ?_
   rotate_left
   ·show Act.put _ (some 26) _ = _
    simp only [Act.put,setIfInBounds_toArray,set_cons_zero,set_cons_succ,i64_w,i32_w]
    rfl
   refine pV_ 20 6 (bm 21 2097151) HT_.out ?_
   refine done_ (done_of HT_.out (by kernel_rfl)) ?_
   have hnb18 := NB220_221.out
   have hnc18 := NB221_220.out
   have hnb19 := NB220_222.out
   have hnc19 := NB222_220.out
   have hcz20_0 : w15.cell? ⟨gb220,0,none⟩ = some (.int .i64 a0_0) := (blk_cell BK220.out 0).trans rfl
   have hcz20_1 : w15.cell? ⟨gb220,1,none⟩ = some (.int .i64 a0_1) := (blk_cell BK220.out 1).trans rfl
   have hcz20_2 : w15.cell? ⟨gb220,2,none⟩ = some (.int .i64 a0_2) := (blk_cell BK220.out 2).trans rfl
   have hcz20_3 : w15.cell? ⟨gb220,3,none⟩ = some (.int .i64 a0_3) := (blk_cell BK220.out 3).trans rfl
   have hcz20_4 : w15.cell? ⟨gb220,4,none⟩ = some (.int .i64 a0_4) := (blk_cell BK220.out 4).trans rfl
   have hcz20_5 : w15.cell? ⟨gb220,5,none⟩ = some (.int .i64 a0_5) := (blk_cell BK220.out 5).trans rfl
   have hfz20_0 := blk_frozen BK220.out 0
   have hfz20_1 := blk_frozen BK220.out 1
   have hfz20_2 := blk_frozen BK220.out 2
   have hfz20_3 := blk_frozen BK220.out 3
   have hfz20_4 := blk_frozen BK220.out 4
   have hfz20_5 := blk_frozen BK220.out 5
   have hnb21 := NB221_222.out
   have hnc21 := NB222_221.out
   have hcz22_0 : w15.cell? ⟨gb221,0,none⟩ = some (.int .i64 a1_0) := (blk_cell BK221.out 0).trans rfl
   have hcz22_1 : w15.cell? ⟨gb221,1,none⟩ = some (.int .i64 a1_1) := (blk_cell BK221.out 1).trans rfl
   have hcz22_2 : w15.cell? ⟨gb221,2,none⟩ = some (.int .i64 a1_2) := (blk_cell BK221.out 2).trans rfl
   have hcz22_3 : w15.cell? ⟨gb221,3,none⟩ = some (.int .i64 a1_3) := (blk_cell BK221.out 3).trans rfl
   have hcz22_4 : w15.cell? ⟨gb221,4,none⟩ = some (.int .i64 a1_4) := (blk_cell BK221.out 4).trans rfl
   have hcz22_5 : w15.cell? ⟨gb221,5,none⟩ = some (.int .i64 a1_5) := (blk_cell BK221.out 5).trans rfl
   have hfz22_0 := blk_frozen BK221.out 0
   have hfz22_1 := blk_frozen BK221.out 1
   have hfz22_2 := blk_frozen BK221.out 2
   have hfz22_3 := blk_frozen BK221.out 3
   have hfz22_4 := blk_frozen BK221.out 4
   have hfz22_5 := blk_frozen BK221.out 5
   try go_wp2_with (first | ((with_reducible refine gate_callee (f:=68) rfl ?_); refine goesL_ (some 33) rfl rfl Try.func68 (by kernel_rfl) rfl #[.agg #[.int .i64 a0_0,.int .i64 a0_1,.int .i64 a0_2,.int .i64 a0_3,.int .i64 a0_4,.int .i64 a0_5],.agg #[.int .i64 a1_0,.int .i64 a1_1,.int .i64 a1_2,.int .i64 a1_3,.int .i64 a1_4,.int .i64 a1_5]] rfl mA ?_; (with_reducible refine (impl_Agg_merged.calls a0_0 a0_1 a0_2 a0_3 a0_4 a0_5 a1_0 a1_1 a1_2 a1_3 a1_4 a1_5 t229 t230 t231 t232 t233 t234 _ A8.out).mono ?_); rintro e w23 ⟨rfl,hb⟩; refine ⟨_,rfl,?_⟩; have n0_ := Aside0.mk (Kd.R_below (rA HO227.out) hb); have n1_ := Aside0.mk (blk_below (g:=gb220) (o:=.cells #[.int .i64 a0_0,.int .i64 a0_1,.int .i64 a0_2,.int .i64 a0_3,.int .i64 a0_4,.int .i64 a0_5] 54 (0,0)) (kA BK220.out) hb); have n2_ := Aside0.mk (blk_below (g:=gb221) (o:=.cells #[.int .i64 a1_0,.int .i64 a1_1,.int .i64 a1_2,.int .i64 a1_3,.int .i64 a1_4,.int .i64 a1_5] 54 (0,0)) (kA BK221.out) hb); have n3_ := Aside0.mk (blk_below (g:=gb222) (o:=.cells #[.int .i64 0,.int .i64 0,.int .i64 0,.int .i64 0,.int .i64 0,.int .i64 0] 54 (0,0)) (kA BK222.out) hb); have n4_ := Aside0.mk (below_step bA hb); clear HO227; clear BK220; clear BK221; clear BK222; clear HB; have HO227 := n0_; have BK220 := n1_; have BK221 := n2_; have BK222 := n3_; have HB := n4_; clear n0_ n1_ n2_ n3_ n4_; (try clear hb); (try clear hb2); (try clear hk); (try clear hi); have hcz24_0 : w23.cell? ⟨gb222,0,none⟩ = some (.int .i64 0) := (blk_cell BK222.out 0).trans rfl; have hcz24_1 : w23.cell? ⟨gb222,1,none⟩ = some (.int .i64 0) := (blk_cell BK222.out 1).trans rfl; have hcz24_2 : w23.cell? ⟨gb222,2,none⟩ = some (.int .i64 0) := (blk_cell BK222.out 2).trans rfl; have hcz24_3 : w23.cell? ⟨gb222,3,none⟩ = some (.int .i64 0) := (blk_cell BK222.out 3).trans rfl; have hcz24_4 : w23.cell? ⟨gb222,4,none⟩ = some (.int .i64 0) := (blk_cell BK222.out 4).trans rfl; have hcz24_5 : w23.cell? ⟨gb222,5,none⟩ = some (.int .i64 0) := (blk_cell BK222.out 5).trans rfl; have hfz24_0 := blk_frozen BK222.out 0; have hfz24_1 := blk_frozen BK222.out 1; have hfz24_2 := blk_frozen BK222.out 2; have hfz24_3 := blk_frozen BK222.out 3; have hfz24_4 := blk_frozen BK222.out 4; have hfz24_5 := blk_frozen BK222.out 5))
   refine bodyPost_ret (results_ct rfl _ _ gb222 54 #[.int .i64 t229,.int .i64 t230,.int .i64 t231,.int .i64 t232,.int .i64 t233,.int .i64 t234] (0,0) _ rfl (by (with_reducible repeat (first | refine blk_drewN ?_ _ | refine blk_drew ?_ | refine blk_alloc ?_ _)); refine blk_put (cs := #[.int .i64 t229,.int .i64 t230,.int .i64 t231,.int .i64 t232,.int .i64 t233,.int .i64 0]) ?_ 5 _ rfl; (with_reducible repeat (first | refine blk_drewN ?_ _ | refine blk_drew ?_ | refine blk_alloc ?_ _)); refine blk_put (cs := #[.int .i64 t229,.int .i64 t230,.int .i64 t231,.int .i64 t232,.int .i64 0,.int .i64 0]) ?_ 4 _ rfl; (with_reducible repeat (first | refine blk_drewN ?_ _ | refine blk_drew ?_ | refine blk_alloc ?_ _)); refine blk_put (cs := #[.int .i64 t229,.int .i64 t230,.int .i64 t231,.int .i64 0,.int .i64 0,.int .i64 0]) ?_ 3 _ rfl; (with_reducible repeat (first | refine blk_drewN ?_ _ | refine blk_drew ?_ | refine blk_alloc ?_ _)); refine blk_put (cs := #[.int .i64 t229,.int .i64 t230,.int .i64 0,.int .i64 0,.int .i64 0,.int .i64 0]) ?_ 2 _ rfl; (with_reducible repeat (first | refine blk_drewN ?_ _ | refine blk_drew ?_ | refine blk_alloc ?_ _)); refine blk_put (cs := #[.int .i64 t229,.int .i64 0,.int .i64 0,.int .i64 0,.int .i64 0,.int .i64 0]) ?_ 1 _ rfl; (with_reducible repeat (first | refine blk_drewN ?_ _ | refine blk_drew ?_ | refine blk_alloc ?_ _)); refine blk_put (cs := #[.int .i64 0,.int .i64 0,.int .i64 0,.int .i64 0,.int .i64 0,.int .i64 0]) ?_ 0 _ rfl; (with_reducible repeat (first | refine blk_drewN ?_ _ | refine blk_drew ?_ | refine blk_alloc ?_ _)); exact BK222.out) Try.underlying54 rfl (by kernel_rfl)) rfl ?_
   exact ⟨by first | rfl | (simp only [i64_w,i32_w] <;> rfl) | (simp [errW_none,errW_some] <;> rfl) | (simp [*,errW_none,errW_some] <;> rfl),bA⟩
  ·rw [if_neg c7] at H
   have c7b0 : (t228 == 0) = false := beq_eq_false_iff_ne.mpr c7
   have c7b1 : (t228 != 0) = true := bne_iff_ne.mpr c7
   simp only [Option.some.injEq,Prod.mk.injEq] at H
   obtain ⟨rfl,rfl,rfl,rfl,rfl,rfl,rfl⟩ := H
   go_enter Try.func29,Try.ntmps29
   try go_wp2_with (first | ((with_reducible refine gate_dst (N:=2) rfl ?_); refine box_event ?hg (N:=2) ?hd (cs := #[.int .i64 a0_0,.int .i64 a0_1,.int .i64 a0_2,.int .i64 a0_3,.int .i64 a0_4,.int .i64 a0_5]) (t:=54) ?hr ?_; (case hd => rfl); (case hg => rfl); (case hr => first | (go_simp; done) | (go_simp; rfl)); intro gb220 hg w25 hbox hb; have n0_ := Aside0.mk (below_step bA hb); have n1_ := Aside0.mk (hbox); have n2_ := Aside0.mk ((by rw [hg]; exact (below_size bA) : w.heap.size ≤ gb220)); have n3_ := Aside0.mk ((by rw [hg]; exact (below_size bA) : w.heap.size ≤ gb220)); clear HB; have HB := n0_; have BK220 := n1_; have GW220 := n2_; have GE220 := n3_; clear n0_ n1_ n2_ n3_; clear hb hbox hg) | ((with_reducible refine gate_dst (N:=3) rfl ?_); refine box_event ?hg (N:=3) ?hd (cs := #[.int .i64 a1_0,.int .i64 a1_1,.int .i64 a1_2,.int .i64 a1_3,.int .i64 a1_4,.int .i64 a1_5]) (t:=54) ?hr ?_; (case hd => rfl); (case hg => rfl); (case hr => first | (go_simp; done) | (go_simp; rfl)); intro gb221 hg w26 hbox hb; have n0_ := Aside0.mk (blk_below (g:=gb220) (o:=.cells #[.int .i64 a0_0,.int .i64 a0_1,.int .i64 a0_2,.int .i64 a0_3,.int .i64 a0_4,.int .i64 a0_5] 54 (0,0)) (kA BK220.out) hb); have n1_ := Aside0.mk (below_step bA hb); have n2_ := Aside0.mk (hbox); have n3_ := Aside0.mk ((by rw [hg]; exact (below_size bA) : w.heap.size ≤ gb221)); have n4_ := Aside0.mk ((by rw [hg]; exact (below_size bA) : w.heap.size ≤ gb221)); have n5_ := Aside0.mk ((by rw [hg]; exact Nat.ne_of_lt (blk_lt (g:=gb220) (o:=.cells #[.int .i64 a0_0,.int .i64 a0_1,.int .i64 a0_2,.int .i64 a0_3,.int .i64 a0_4,.int .i64 a0_5] 54 (0,0)) (kA BK220.out)) : gb220 ≠ gb221)); have n6_ := Aside0.mk ((by rw [hg]; exact Nat.ne_of_gt (blk_lt (g:=gb220) (o:=.cells #[.int .i64 a0_0,.int .i64 a0_1,.int .i64 a0_2,.int .i64 a0_3,.int .i64 a0_4,.int .i64 a0_5] 54 (0,0)) (kA BK220.out)) : gb221 ≠ gb220)); clear BK220; clear HB; have BK220 := n0_; have HB := n1_; have BK221 := n2_; have GW221 := n3_; have GE221 := n4_; have NB220_221 := n5_; have NB221_220 := n6_; clear n0_ n1_ n2_ n3_ n4_ n5_ n6_; clear hb hbox hg) | ((with_reducible refine gate_dst (N:=4) rfl ?_); refine box_event ?hg (N:=4) ?hd (cs := #[.int .i64 0,.int .i64 0,.int .i64 0,.int .i64 0,.int .i64 0,.int .i64 0]) (t:=54) ?hr ?_; (case hd => rfl); (case hg => rfl); (case hr => first | (go_simp; done) | (go_simp; rfl)); intro gb222 hg w27 hbox hb; have n0_ := Aside0.mk (blk_below (g:=gb220) (o:=.cells #[.int .i64 a0_0,.int .i64 a0_1,.int .i64 a0_2,.int .i64 a0_3,.int .i64 a0_4,.int .i64 a0_5] 54 (0,0)) (kA BK220.out) hb); have n1_ := Aside0.mk (blk_below (g:=gb221) (o:=.cells #[.int .i64 a1_0,.int .i64 a1_1,.int .i64 a1_2,.int .i64 a1_3,.int .i64 a1_4,.int .i64 a1_5] 54 (0,0)) (kA BK221.out) hb); have n2_ := Aside0.mk (below_step bA hb); have n3_ := Aside0.mk (hbox); have n4_ := Aside0.mk ((by rw [hg]; exact (below_size bA) : w.heap.size ≤ gb222)); have n5_ := Aside0.mk ((by rw [hg]; exact (below_size bA) : w.heap.size ≤ gb222)); have n6_ := Aside0.mk ((by rw [hg]; exact Nat.ne_of_lt (blk_lt (g:=gb220) (o:=.cells #[.int .i64 a0_0,.int .i64 a0_1,.int .i64 a0_2,.int .i64 a0_3,.int .i64 a0_4,.int .i64 a0_5] 54 (0,0)) (kA BK220.out)) : gb220 ≠ gb222)); have n7_ := Aside0.mk ((by rw [hg]; exact Nat.ne_of_gt (blk_lt (g:=gb220) (o:=.cells #[.int .i64 a0_0,.int .i64 a0_1,.int .i64 a0_2,.int .i64 a0_3,.int .i64 a0_4,.int .i64 a0_5] 54 (0,0)) (kA BK220.out)) : gb222 ≠ gb220)); have n8_ := Aside0.mk ((by rw [hg]; exact Nat.ne_of_lt (blk_lt (g:=gb221) (o:=.cells #[.int .i64 a1_0,.int .i64 a1_1,.int .i64 a1_2,.int .i64 a1_3,.int .i64 a1_4,.int .i64 a1_5] 54 (0,0)) (kA BK221.out)) : gb221 ≠ gb222)); have n9_ := Aside0.mk ((by rw [hg]; exact Nat.ne_of_gt (blk_lt (g:=gb221) (o:=.cells #[.int .i64 a1_0,.int .i64 a1_1,.int .i64 a1_2,.int .i64 a1_3,.int .i64 a1_4,.int .i64 a1_5] 54 (0,0)) (kA BK221.out)) : gb222 ≠ gb221)); clear BK220; clear BK221; clear HB; have BK220 := n0_; have BK221 := n1_; have HB := n2_; have BK222 := n3_; have GW222 := n4_; have GE222 := n5_; have NB220_222 := n6_; have NB222_220 := n7_; have NB221_222 := n8_; have NB222_221 := n9_; clear n0_ n1_ n2_ n3_ n4_ n5_ n6_ n7_ n8_ n9_; clear hb hbox hg))
   have n0_ := Aside0.mk (blk_drew BK220.out)
   have n1_ := Aside0.mk (blk_drew BK221.out)
   have n2_ := Aside0.mk (blk_drew BK222.out)
   have n3_ := Aside0.mk (below_drew1 HB.out)
   clear BK220
   clear BK221
   clear BK222
   clear HB
   have BK220 := n0_
   have BK221 := n1_
   have BK222 := n2_
   have HB := n3_
   clear n0_ n1_ n2_ n3_
   refine start_ (n:=21) (S:=fun w' => w'.cell? ⟨gb220,0,none⟩ = some (.int .i64 a0_0) ∧ w'.cell? ⟨gb220,1,none⟩ = some (.int .i64 a0_1) ∧ w'.cell? ⟨gb220,2,none⟩ = some (.int .i64 a0_2) ∧ w'.cell? ⟨gb220,3,none⟩ = some (.int .i64 a0_3) ∧ w'.cell? ⟨gb220,4,none⟩ = some (.int .i64 a0_4) ∧ w'.cell? ⟨gb220,5,none⟩ = some (.int .i64 a0_5) ∧ w'.cell? ⟨gb221,0,none⟩ = some (.int .i64 a1_0) ∧ w'.cell? ⟨gb221,1,none⟩ = some (.int .i64 a1_1) ∧ w'.cell? ⟨gb221,2,none⟩ = some (.int .i64 a1_2) ∧ w'.cell? ⟨gb221,3,none⟩ = some (.int .i64 a1_3) ∧ w'.cell? ⟨gb221,4,none⟩ = some (.int .i64 a1_4) ∧ w'.cell? ⟨gb221,5,none⟩ = some (.int .i64 a1_5)) (ds := []) (bm 21 0) (by kernel_rfl) rfl rfl ⟨(blk_cell BK220.out 0).trans rfl,(blk_cell BK220.out 1).trans rfl,(blk_cell BK220.out 2).trans rfl,(blk_cell BK220.out 3).trans rfl,(blk_cell BK220.out 4).trans rfl,(blk_cell BK220.out 5).trans rfl,(blk_cell BK221.out 0).trans rfl,(blk_cell BK221.out 1).trans rfl,(blk_cell BK221.out 2).trans rfl,(blk_cell BK221.out 3).trans rfl,(blk_cell BK221.out 4).trans rfl,(blk_cell BK221.out 5).trans rfl⟩ (fun hHeld => ?_); refine with_tabW impl_MergeAgg.tab1 impl_MergeAgg.bits1 (fun HT_ HW_ => ?_)
   generalize w27.drew = w28 at BK220 BK221 BK222 HB hHeld ⊢
   refine pV_ 9 16 (bm 21 512) HT_.out ?_
   refine pV_ 10 17 (bm 21 1536) HT_.out ?_
   refine pV_ 12 19 (bm 21 5632) HT_.out ?_
   refine pV_ 17 24 (bm 21 136704) HT_.out ?_
   refine take_ (i:=0) (N:=some 7) (v:=?_) (a':=?_) (bm 21 136705) rfl rfl (take_ofW HT_.out HW_.out (by kernel_rfl)) (fun _ _ _ h => h) (Or.inl ⟨by rfl,?_⟩) hHeld ?_ ?_
   rotate_left
   ·rintro w' ⟨s0,s1,s2,s3,s4,s5,s6,s7,s8,s9,s10,s11⟩
    go_simp
    with_reducible rfl
   rotate_left
   ·simp only [Act.put,setIfInBounds_toArray,set_cons_zero,set_cons_succ,i64_w,i32_w]
    rfl
   refine take_ (i:=11) (N:=some 18) (v:=?_) (a':=?_) (bm 21 138753) rfl rfl (take_ofW HT_.out HW_.out (by kernel_rfl)) (fun _ _ _ h => h) (Or.inl ⟨by rfl,?_⟩) hHeld ?_ ?_
   rotate_left
   ·rintro w' ⟨s0,s1,s2,s3,s4,s5,s6,s7,s8,s9,s10,s11⟩
    go_simp
    with_reducible rfl
   rotate_left
   ·simp only [Act.put,setIfInBounds_toArray,set_cons_zero,set_cons_succ,i64_w,i32_w]
    rfl
   refine take_ (i:=13) (N:=some 20) (v:=?_) (a':=?_) (bm 21 146945) rfl rfl (take_ofW HT_.out HW_.out (by kernel_rfl)) (fun _ _ _ h => h) (Or.inl ⟨by rfl,?_⟩) hHeld ?_ ?_
   rotate_left
   ·rintro w' ⟨s0,s1,s2,s3,s4,s5,s6,s7,s8,s9,s10,s11⟩
    go_simp
    with_reducible rfl
   rotate_left
   ·simp only [Act.put,setIfInBounds_toArray,set_cons_zero,set_cons_succ,i64_w,i32_w]
    rfl
   refine pV_ 14 21 (bm 21 163329) HT_.out ?_
   refine pV_ 15 22 (bm 21 196097) HT_.out ?_
   refine pV_ 16 23 (bm 21 261633) HT_.out ?_
   refine one_ (i:=1) (N:=some 8) (bm 21 261635) rfl rfl (one_of HT_.out (by kernel_rfl)) (by decide) (fun K hK => ?_)
   refine goes_ Try.func30 (by kernel_rfl) rfl #[.agg #[.int .i64 a0_0,.int .i64 a0_1,.int .i64 a0_2,.int .i64 a0_3,.int .i64 a0_4,.int .i64 a0_5]] (by rfl) rfl rfl mA ?_
   with_reducible refine (impl_AggOK.calls a0_0 a0_1 a0_2 a0_3 a0_4 a0_5 true _ A3.out).mono ?_
   rintro e w29 ⟨rfl,hb⟩
   refine ⟨_,rfl,?_⟩
   have n0_ := Aside0.mk (blk_below (g:=gb220) (o:=.cells #[.int .i64 a0_0,.int .i64 a0_1,.int .i64 a0_2,.int .i64 a0_3,.int .i64 a0_4,.int .i64 a0_5] 54 (0,0)) (kA BK220.out) hb)
   have n1_ := Aside0.mk (blk_below (g:=gb221) (o:=.cells #[.int .i64 a1_0,.int .i64 a1_1,.int .i64 a1_2,.int .i64 a1_3,.int .i64 a1_4,.int .i64 a1_5] 54 (0,0)) (kA BK221.out) hb)
   have n2_ := Aside0.mk (blk_below (g:=gb222) (o:=.cells #[.int .i64 0,.int .i64 0,.int .i64 0,.int .i64 0,.int .i64 0,.int .i64 0] 54 (0,0)) (kA BK222.out) hb)
   have n3_ := Aside0.mk (below_step bA hb)
   clear BK220
   clear BK221
   clear BK222
   clear HB
   have BK220 := n0_
   have BK221 := n1_
   have BK222 := n2_
   have HB := n3_
   clear n0_ n1_ n2_ n3_
   (try clear hb)
   (try clear hb2)
   (try clear hk)
   (try clear hi)
   refine hK.out _ _ ⟨(blk_cell BK220.out 0).trans rfl,(blk_cell BK220.out 1).trans rfl,(blk_cell BK220.out 2).trans rfl,(blk_cell BK220.out 3).trans rfl,(blk_cell BK220.out 4).trans rfl,(blk_cell BK220.out 5).trans rfl,(blk_cell BK221.out 0).trans rfl,(blk_cell BK221.out 1).trans rfl,(blk_cell BK221.out 2).trans rfl,(blk_cell BK221.out 3).trans rfl,(blk_cell BK221.out 4).trans rfl,(blk_cell BK221.out 5).trans rfl⟩ (fun hHeld => ?_)
   clear hK K
   refine norm_ (a':=?_) ?_ ?_
   rotate_left
   ·show Act.put _ (some 8) _ = _
    simp only [Act.put,setIfInBounds_toArray,set_cons_zero,set_cons_succ,i64_w,i32_w]
    rfl
   refine pV_ 2 9 (bm 21 261639) HT_.out ?_
   refine pV_ 3 10 (bm 21 261647) HT_.out ?_
   refine take_ (i:=4) (N:=some 11) (v:=?_) (a':=?_) (bm 21 261663) rfl rfl (take_ofW HT_.out HW_.out (by kernel_rfl)) (fun _ _ _ h => h) (Or.inl ⟨by rfl,?_⟩) hHeld ?_ ?_
   rotate_left
   ·rintro w' ⟨s0,s1,s2,s3,s4,s5,s6,s7,s8,s9,s10,s11⟩
    go_simp
    with_reducible rfl
   rotate_left
   ·simp only [Act.put,setIfInBounds_toArray,set_cons_zero,set_cons_succ,i64_w,i32_w]
    rfl
   refine one_ (i:=5) (N:=some 12) (bm 21 261695) rfl rfl (one_of HT_.out (by kernel_rfl)) (by decide) (fun K hK => ?_)
   refine goes_ Try.func30 (by kernel_rfl) rfl #[.agg #[.int .i64 a1_0,.int .i64 a1_1,.int .i64 a1_2,.int .i64 a1_3,.int .i64 a1_4,.int .i64 a1_5]] (by rfl) rfl rfl mA ?_
   with_reducible refine (impl_AggOK.calls a1_0 a1_1 a1_2 a1_3 a1_4 a1_5 t224 _ A5.out).mono ?_
   rintro e w30 ⟨rfl,hb⟩
   refine ⟨_,rfl,?_⟩
   have n0_ := Aside0.mk (blk_below (g:=gb220) (o:=.cells #[.int .i64 a0_0,.int .i64 a0_1,.int .i64 a0_2,.int .i64 a0_3,.int .i64 a0_4,.int .i64 a0_5] 54 (0,0)) (kA BK220.out) hb)
   have n1_ := Aside0.mk (blk_below (g:=gb221) (o:=.cells #[.int .i64 a1_0,.int .i64 a1_1,.int .i64 a1_2,.int .i64 a1_3,.int .i64 a1_4,.int .i64 a1_5] 54 (0,0)) (kA BK221.out) hb)
   have n2_ := Aside0.mk (blk_below (g:=gb222) (o:=.cells #[.int .i64 0,.int .i64 0,.int .i64 0,.int .i64 0,.int .i64 0,.int .i64 0] 54 (0,0)) (kA BK222.out) hb)
   have n3_ := Aside0.mk (below_step bA hb)
   clear BK220
   clear BK221
   clear BK222
   clear HB
   have BK220 := n0_
   have BK221 := n1_
   have BK222 := n2_
   have HB := n3_
   clear n0_ n1_ n2_ n3_
   (try clear hb)
   (try clear hb2)
   (try clear hk)
   (try clear hi)
   refine hK.out _ _ ⟨(blk_cell BK220.out 0).trans rfl,(blk_cell BK220.out 1).trans rfl,(blk_cell BK220.out 2).trans rfl,(blk_cell BK220.out 3).trans rfl,(blk_cell BK220.out 4).trans rfl,(blk_cell BK220.out 5).trans rfl,(blk_cell BK221.out 0).trans rfl,(blk_cell BK221.out 1).trans rfl,(blk_cell BK221.out 2).trans rfl,(blk_cell BK221.out 3).trans rfl,(blk_cell BK221.out 4).trans rfl,(blk_cell BK221.out 5).trans rfl⟩ (fun hHeld => ?_)
   clear hK K
   refine norm_ (a':=?_) ?_ ?_
   rotate_left
   ·show Act.put _ (some 12) _ = _
    simp only [Act.put,setIfInBounds_toArray,set_cons_zero,set_cons_succ,i64_w,i32_w]
    rfl
   refine pV_ 6 13 (bm 21 261759) HT_.out ?_
   refine pV_ 7 14 (bm 21 261887) HT_.out ?_
   refine pV_ 8 15 (bm 21 262143) HT_.out ?_
   refine one_ (i:=18) (N:=some 25) (bm 21 524287) rfl rfl (one_of HT_.out (by kernel_rfl)) (by decide) (fun K hK => ?_)
   refine Kd.R_lit_step kAny _ 20 ?hg (N:=25) ?hd (xs := ([anyB (!t224),anyI 1,anyB (decide ((wrap64 (a0_0 + a1_0)) > 100000)),anyI 6] : List AnyV)) (inner := [.iface 4 (.bool (!t224)),.iface 3 (.int .i64 1),.iface 4 (.bool (decide ((wrap64 (a0_0 + a1_0)) > 100000))),.iface 3 (.int .i64 6)]) (ok := fun _ => True) (okp := fun _ => True) ?hr ?hp (fun _ hk => hk) trivial (Below.refl _ _) (Nat.le_refl _) (by simp) ?_; (case hd => rfl); (case hg => rfl); (case hr => first | (go_simp; done) | (go_simp; rfl)); (case hp => exact (Reps.one (show Kd.M kAny _ _ _ (anyB (!t224)) [.iface 4 (.bool (!t224))] from rfl) (Reps.one (show Kd.M kAny _ _ _ (anyI 1) [.iface 3 (.int .i64 1)] from rfl) (Reps.one (show Kd.M kAny _ _ _ (anyB (decide ((wrap64 (a0_0 + a1_0)) > 100000))) [.iface 4 (.bool (decide ((wrap64 (a0_0 + a1_0)) > 100000)))] from rfl) (Reps.one (show Kd.M kAny _ _ _ (anyI 6) [.iface 3 (.int .i64 6)] from rfl) (Reps.none _ _))))))
   intro v226 w31 ho32 hb hg_ hnew_
   clear hg_ hnew_
   (first | rw [← Ny225.out] at ho32 | (simp only [Int.reduceToNat] at ho32; rw [← Ny225.out] at ho32))
   have n0_ := Aside0.mk (Kd.R_lower ho32 (below_size bA))
   have n1_ := Aside0.mk (blk_below (g:=gb220) (o:=.cells #[.int .i64 a0_0,.int .i64 a0_1,.int .i64 a0_2,.int .i64 a0_3,.int .i64 a0_4,.int .i64 a0_5] 54 (0,0)) (kA BK220.out) hb)
   have n2_ := Aside0.mk (blk_below (g:=gb221) (o:=.cells #[.int .i64 a1_0,.int .i64 a1_1,.int .i64 a1_2,.int .i64 a1_3,.int .i64 a1_4,.int .i64 a1_5] 54 (0,0)) (kA BK221.out) hb)
   have n3_ := Aside0.mk (blk_below (g:=gb222) (o:=.cells #[.int .i64 0,.int .i64 0,.int .i64 0,.int .i64 0,.int .i64 0,.int .i64 0] 54 (0,0)) (kA BK222.out) hb)
   have n4_ := Aside0.mk (below_step bA hb)
   clear BK220
   clear BK221
   clear BK222
   clear HB
   have HO227 := n0_
   have BK220 := n1_
   have BK221 := n2_
   have BK222 := n3_
   have HB := n4_
   clear n0_ n1_ n2_ n3_ n4_
   clear hb ho32
   obtain ⟨Ao33,co33,eo33⟩ := Kd.R_slice HO227.out
   (first | subst eo33 | (injection eo33 with f1_ f2_ f3_; have f4_ := f1_.symm; have f5_ := f3_.symm; clear f1_ f2_ f3_; subst f4_; subst f5_))
   refine hK.out _ _ ⟨(blk_cell BK220.out 0).trans rfl,(blk_cell BK220.out 1).trans rfl,(blk_cell BK220.out 2).trans rfl,(blk_cell BK220.out 3).trans rfl,(blk_cell BK220.out 4).trans rfl,(blk_cell BK220.out 5).trans rfl,(blk_cell BK221.out 0).trans rfl,(blk_cell BK221.out 1).trans rfl,(blk_cell BK221.out 2).trans rfl,(blk_cell BK221.out 3).trans rfl,(blk_cell BK221.out 4).trans rfl,(blk_cell BK221.out 5).trans rfl⟩ (fun hHeld => ?_)
   clear hK K
   refine norm_ (a':=?_) ?_ ?_
   rotate_left
   ·show Act.put _ (some 25) _ = _
    simp only [Act.put,setIfInBounds_toArray,set_cons_zero,set_cons_succ,i64_w,i32_w]
    rfl
   refine one_ (i:=19) (N:=some 26) (bm 21 1048575) rfl rfl (one_of HT_.out (by kernel_rfl)) (by decide) (fun K hK => ?_)
   refine goes_ Try.func51 (by kernel_rfl) rfl #[.slice Ao33 y225.length co33] (by rfl) rfl rfl mA ?_
   with_reducible refine (impl_first.calls k _ _ y225 t228 _ ?side1 ?side2 A6.out).mono ?_
   (case side1 => repeat (first | exact (Kd.R_reads' HO227.out).2.2 | (with_reducible refine Kd.C_alloc ?_ _) | (with_reducible refine Kd.C_drewN ?_ _) | (with_reducible refine Kd.C_drew ?_)))
   (case side2 => exact (Kd.R_reads' HO227.out).2.1)
   rintro e w' ⟨rfl,⟨nd,rfl⟩⟩
   refine ⟨_,rfl,?_⟩
   refine hK.out _ _ ⟨(blk_cell BK220.out 0).trans rfl,(blk_cell BK220.out 1).trans rfl,(blk_cell BK220.out 2).trans rfl,(blk_cell BK220.out 3).trans rfl,(blk_cell BK220.out 4).trans rfl,(blk_cell BK220.out 5).trans rfl,(blk_cell BK221.out 0).trans rfl,(blk_cell BK221.out 1).trans rfl,(blk_cell BK221.out 2).trans rfl,(blk_cell BK221.out 3).trans rfl,(blk_cell BK221.out 4).trans rfl,(blk_cell BK221.out 5).trans rfl⟩ (fun hHeld => ?_)
   clear hK K
   refine norm_ (a':=?_) ?_ ?_
   rotate_left
   ·show Act.put _ (some 26) _ = _
    simp only [Act.put,setIfInBounds_toArray,set_cons_zero,set_cons_succ,i64_w,i32_w]
    rfl
   refine pV_ 20 6 (bm 21 2097151) HT_.out ?_
   refine done_ (done_of HT_.out (by kernel_rfl)) ?_
   have hnb34 := NB222_220.out
   have hnc34 := NB220_222.out
   have hnb35 := NB222_221.out
   have hnc35 := NB221_222.out
   have hcz36_0 : w31.cell? ⟨gb222,0,none⟩ = some (.int .i64 0) := (blk_cell BK222.out 0).trans rfl
   have hcz36_1 : w31.cell? ⟨gb222,1,none⟩ = some (.int .i64 0) := (blk_cell BK222.out 1).trans rfl
   have hcz36_2 : w31.cell? ⟨gb222,2,none⟩ = some (.int .i64 0) := (blk_cell BK222.out 2).trans rfl
   have hcz36_3 : w31.cell? ⟨gb222,3,none⟩ = some (.int .i64 0) := (blk_cell BK222.out 3).trans rfl
   have hcz36_4 : w31.cell? ⟨gb222,4,none⟩ = some (.int .i64 0) := (blk_cell BK222.out 4).trans rfl
   have hcz36_5 : w31.cell? ⟨gb222,5,none⟩ = some (.int .i64 0) := (blk_cell BK222.out 5).trans rfl
   have hfz36_0 := blk_frozen BK222.out 0
   have hfz36_1 := blk_frozen BK222.out 1
   have hfz36_2 := blk_frozen BK222.out 2
   have hfz36_3 := blk_frozen BK222.out 3
   have hfz36_4 := blk_frozen BK222.out 4
   have hfz36_5 := blk_frozen BK222.out 5
   try go_wp2
   refine bodyPost_ret (results_ct rfl _ _ gb222 54 #[.int .i64 0,.int .i64 0,.int .i64 0,.int .i64 0,.int .i64 0,.int .i64 0] (0,0) _ rfl (by (with_reducible repeat (first | refine blk_drewN ?_ _ | refine blk_drew ?_ | refine blk_alloc ?_ _)); refine blk_put (cs := #[.int .i64 0,.int .i64 0,.int .i64 0,.int .i64 0,.int .i64 0,.int .i64 0]) ?_ 5 _ rfl; (with_reducible repeat (first | refine blk_drewN ?_ _ | refine blk_drew ?_ | refine blk_alloc ?_ _)); refine blk_put (cs := #[.int .i64 0,.int .i64 0,.int .i64 0,.int .i64 0,.int .i64 0,.int .i64 0]) ?_ 4 _ rfl; (with_reducible repeat (first | refine blk_drewN ?_ _ | refine blk_drew ?_ | refine blk_alloc ?_ _)); refine blk_put (cs := #[.int .i64 0,.int .i64 0,.int .i64 0,.int .i64 0,.int .i64 0,.int .i64 0]) ?_ 3 _ rfl; (with_reducible repeat (first | refine blk_drewN ?_ _ | refine blk_drew ?_ | refine blk_alloc ?_ _)); refine blk_put (cs := #[.int .i64 0,.int .i64 0,.int .i64 0,.int .i64 0,.int .i64 0,.int .i64 0]) ?_ 2 _ rfl; (with_reducible repeat (first | refine blk_drewN ?_ _ | refine blk_drew ?_ | refine blk_alloc ?_ _)); refine blk_put (cs := #[.int .i64 0,.int .i64 0,.int .i64 0,.int .i64 0,.int .i64 0,.int .i64 0]) ?_ 1 _ rfl; (with_reducible repeat (first | refine blk_drewN ?_ _ | refine blk_drew ?_ | refine blk_alloc ?_ _)); refine blk_put (cs := #[.int .i64 0,.int .i64 0,.int .i64 0,.int .i64 0,.int .i64 0,.int .i64 0]) ?_ 0 _ rfl; (with_reducible repeat (first | refine blk_drewN ?_ _ | refine blk_drew ?_ | refine blk_alloc ?_ _)); exact BK222.out) Try.underlying54 rfl (by kernel_rfl)) rfl ?_
   exact ⟨by first | rfl | (simp only [i64_w,i32_w] <;> rfl) | (simp [errW_none,errW_some] <;> rfl) | (simp [*,errW_none,errW_some] <;> rfl),bA⟩
 ·replace c4 := Bool.eq_false_iff.mpr c4
  subst c4
  rw [if_neg (show ¬ (false = true) by decide)] at H
  obtain ⟨y235,hy235⟩ : ∃ y_ : List AnyV,y_ = (([anyB true,anyI 1,anyB (decide ((wrap64 (a0_0 + a1_0)) > 100000)),anyI 6] : List AnyV)) := ⟨_,rfl⟩
  replace H : ((impl_first.f k y235).bind fun t238 => (if t238 = 0 then ((impl_Agg_merged.f a0_0 a0_1 a0_2 a0_3 a0_4 a0_5 a1_0 a1_1 a1_2 a1_3 a1_4 a1_5).bind fun bt239 => (some (bt239.1,bt239.2.1,bt239.2.2.1,bt239.2.2.2.1,bt239.2.2.2.2.1,bt239.2.2.2.2.2,0))) else (some (0,0,0,0,0,0,t238)))) = some (r1,r2,r3,r4,r5,r6,r7) := by first | (rw [hy235]; with_reducible exact H) | (have H2_ := (Option.bind_some _ _).symm.trans H; rw [hy235]; with_reducible exact H2_) | (have H2_ := (Option.bind_some _ _).symm.trans H; with_reducible exact H2_) | with_reducible exact H | (rw [hy235]; exact H) | exact H
  have Ny235 := Aside0.mk hy235
  clear hy235
  replace H := Option.bind_eq_some_iff.mp H
  obtain ⟨t238,A370,H⟩ := H
  try dsimp only at H
  have A37 := Aside0.mk A370
  clear A370
  by_cases c38 : t238 = 0
  ·rw [if_pos c38] at H
   have c38b0 : (t238 == 0) = true := beq_iff_eq.mpr c38
   have c38b1 : (t238 != 0) = false := bne_eq_false_iff_eq.mpr c38
   clear c38
   replace H := Option.bind_eq_some_iff.mp H
   obtain ⟨⟨t239,t240,t241,t242,t243,t244⟩,A390,H⟩ := H
   try dsimp only at H
   have A39 := Aside0.mk A390
   clear A390
   simp only [Option.some.injEq,Prod.mk.injEq] at H
   obtain ⟨rfl,rfl,rfl,rfl,rfl,rfl,rfl⟩ := H
   go_enter Try.func29,Try.ntmps29
   try go_wp2_with (first | ((with_reducible refine gate_dst (N:=2) rfl ?_); refine box_event ?hg (N:=2) ?hd (cs := #[.int .i64 a0_0,.int .i64 a0_1,.int .i64 a0_2,.int .i64 a0_3,.int .i64 a0_4,.int .i64 a0_5]) (t:=54) ?hr ?_; (case hd => rfl); (case hg => rfl); (case hr => first | (go_simp; done) | (go_simp; rfl)); intro gb220 hg w40 hbox hb; have n0_ := Aside0.mk (below_step bA hb); have n1_ := Aside0.mk (hbox); have n2_ := Aside0.mk ((by rw [hg]; exact (below_size bA) : w.heap.size ≤ gb220)); have n3_ := Aside0.mk ((by rw [hg]; exact (below_size bA) : w.heap.size ≤ gb220)); clear HB; have HB := n0_; have BK220 := n1_; have GW220 := n2_; have GE220 := n3_; clear n0_ n1_ n2_ n3_; clear hb hbox hg) | ((with_reducible refine gate_dst (N:=3) rfl ?_); refine box_event ?hg (N:=3) ?hd (cs := #[.int .i64 a1_0,.int .i64 a1_1,.int .i64 a1_2,.int .i64 a1_3,.int .i64 a1_4,.int .i64 a1_5]) (t:=54) ?hr ?_; (case hd => rfl); (case hg => rfl); (case hr => first | (go_simp; done) | (go_simp; rfl)); intro gb221 hg w41 hbox hb; have n0_ := Aside0.mk (blk_below (g:=gb220) (o:=.cells #[.int .i64 a0_0,.int .i64 a0_1,.int .i64 a0_2,.int .i64 a0_3,.int .i64 a0_4,.int .i64 a0_5] 54 (0,0)) (kA BK220.out) hb); have n1_ := Aside0.mk (below_step bA hb); have n2_ := Aside0.mk (hbox); have n3_ := Aside0.mk ((by rw [hg]; exact (below_size bA) : w.heap.size ≤ gb221)); have n4_ := Aside0.mk ((by rw [hg]; exact (below_size bA) : w.heap.size ≤ gb221)); have n5_ := Aside0.mk ((by rw [hg]; exact Nat.ne_of_lt (blk_lt (g:=gb220) (o:=.cells #[.int .i64 a0_0,.int .i64 a0_1,.int .i64 a0_2,.int .i64 a0_3,.int .i64 a0_4,.int .i64 a0_5] 54 (0,0)) (kA BK220.out)) : gb220 ≠ gb221)); have n6_ := Aside0.mk ((by rw [hg]; exact Nat.ne_of_gt (blk_lt (g:=gb220) (o:=.cells #[.int .i64 a0_0,.int .i64 a0_1,.int .i64 a0_2,.int .i64 a0_3,.int .i64 a0_4,.int .i64 a0_5] 54 (0,0)) (kA BK220.out)) : gb221 ≠ gb220)); clear BK220; clear HB; have BK220 := n0_; have HB := n1_; have BK221 := n2_; have GW221 := n3_; have GE221 := n4_; have NB220_221 := n5_; have NB221_220 := n6_; clear n0_ n1_ n2_ n3_ n4_ n5_ n6_; clear hb hbox hg) | ((with_reducible refine gate_dst (N:=4) rfl ?_); refine box_event ?hg (N:=4) ?hd (cs := #[.int .i64 0,.int .i64 0,.int .i64 0,.int .i64 0,.int .i64 0,.int .i64 0]) (t:=54) ?hr ?_; (case hd => rfl); (case hg => rfl); (case hr => first | (go_simp; done) | (go_simp; rfl)); intro gb222 hg w42 hbox hb; have n0_ := Aside0.mk (blk_below (g:=gb220) (o:=.cells #[.int .i64 a0_0,.int .i64 a0_1,.int .i64 a0_2,.int .i64 a0_3,.int .i64 a0_4,.int .i64 a0_5] 54 (0,0)) (kA BK220.out) hb); have n1_ := Aside0.mk (blk_below (g:=gb221) (o:=.cells #[.int .i64 a1_0,.int .i64 a1_1,.int .i64 a1_2,.int .i64 a1_3,.int .i64 a1_4,.int .i64 a1_5] 54 (0,0)) (kA BK221.out) hb); have n2_ := Aside0.mk (below_step bA hb); have n3_ := Aside0.mk (hbox); have n4_ := Aside0.mk ((by rw [hg]; exact (below_size bA) : w.heap.size ≤ gb222)); have n5_ := Aside0.mk ((by rw [hg]; exact (below_size bA) : w.heap.size ≤ gb222)); have n6_ := Aside0.mk ((by rw [hg]; exact Nat.ne_of_lt (blk_lt (g:=gb220) (o:=.cells #[.int .i64 a0_0,.int .i64 a0_1,.int .i64 a0_2,.int .i64 a0_3,.int .i64 a0_4,.int .i64 a0_5] 54 (0,0)) (kA BK220.out)) : gb220 ≠ gb222)); have n7_ := Aside0.mk ((by rw [hg]; exact Nat.ne_of_gt (blk_lt (g:=gb220) (o:=.cells #[.int .i64 a0_0,.int .i64 a0_1,.int .i64 a0_2,.int .i64 a0_3,.int .i64 a0_4,.int .i64 a0_5] 54 (0,0)) (kA BK220.out)) : gb222 ≠ gb220)); have n8_ := Aside0.mk ((by rw [hg]; exact Nat.ne_of_lt (blk_lt (g:=gb221) (o:=.cells #[.int .i64 a1_0,.int .i64 a1_1,.int .i64 a1_2,.int .i64 a1_3,.int .i64 a1_4,.int .i64 a1_5] 54 (0,0)) (kA BK221.out)) : gb221 ≠ gb222)); have n9_ := Aside0.mk ((by rw [hg]; exact Nat.ne_of_gt (blk_lt (g:=gb221) (o:=.cells #[.int .i64 a1_0,.int .i64 a1_1,.int .i64 a1_2,.int .i64 a1_3,.int .i64 a1_4,.int .i64 a1_5] 54 (0,0)) (kA BK221.out)) : gb222 ≠ gb221)); clear BK220; clear BK221; clear HB; have BK220 := n0_; have BK221 := n1_; have HB := n2_; have BK222 := n3_; have GW222 := n4_; have GE222 := n5_; have NB220_222 := n6_; have NB222_220 := n7_; have NB221_222 := n8_; have NB222_221 := n9_; clear n0_ n1_ n2_ n3_ n4_ n5_ n6_ n7_ n8_ n9_; clear hb hbox hg))
   have n0_ := Aside0.mk (blk_drew BK220.out)
   have n1_ := Aside0.mk (blk_drew BK221.out)
   have n2_ := Aside0.mk (blk_drew BK222.out)
   have n3_ := Aside0.mk (below_drew1 HB.out)
   clear BK220
   clear BK221
   clear BK222
   clear HB
   have BK220 := n0_
   have BK221 := n1_
   have BK222 := n2_
   have HB := n3_
   clear n0_ n1_ n2_ n3_
   refine start_ (n:=21) (S:=fun w' => w'.cell? ⟨gb220,0,none⟩ = some (.int .i64 a0_0) ∧ w'.cell? ⟨gb220,1,none⟩ = some (.int .i64 a0_1) ∧ w'.cell? ⟨gb220,2,none⟩ = some (.int .i64 a0_2) ∧ w'.cell? ⟨gb220,3,none⟩ = some (.int .i64 a0_3) ∧ w'.cell? ⟨gb220,4,none⟩ = some (.int .i64 a0_4) ∧ w'.cell? ⟨gb220,5,none⟩ = some (.int .i64 a0_5) ∧ w'.cell? ⟨gb221,0,none⟩ = some (.int .i64 a1_0) ∧ w'.cell? ⟨gb221,1,none⟩ = some (.int .i64 a1_1) ∧ w'.cell? ⟨gb221,2,none⟩ = some (.int .i64 a1_2) ∧ w'.cell? ⟨gb221,3,none⟩ = some (.int .i64 a1_3) ∧ w'.cell? ⟨gb221,4,none⟩ = some (.int .i64 a1_4) ∧ w'.cell? ⟨gb221,5,none⟩ = some (.int .i64 a1_5)) (ds := []) (bm 21 0) (by kernel_rfl) rfl rfl ⟨(blk_cell BK220.out 0).trans rfl,(blk_cell BK220.out 1).trans rfl,(blk_cell BK220.out 2).trans rfl,(blk_cell BK220.out 3).trans rfl,(blk_cell BK220.out 4).trans rfl,(blk_cell BK220.out 5).trans rfl,(blk_cell BK221.out 0).trans rfl,(blk_cell BK221.out 1).trans rfl,(blk_cell BK221.out 2).trans rfl,(blk_cell BK221.out 3).trans rfl,(blk_cell BK221.out 4).trans rfl,(blk_cell BK221.out 5).trans rfl⟩ (fun hHeld => ?_); refine with_tabW impl_MergeAgg.tab1 impl_MergeAgg.bits1 (fun HT_ HW_ => ?_)
   generalize w42.drew = w43 at BK220 BK221 BK222 HB hHeld ⊢
   refine pV_ 9 16 (bm 21 512) HT_.out ?_
   refine pV_ 10 17 (bm 21 1536) HT_.out ?_
   refine pV_ 12 19 (bm 21 5632) HT_.out ?_
   refine pV_ 17 24 (bm 21 136704) HT_.out ?_
   refine take_ (i:=0) (N:=some 7) (v:=?_) (a':=?_) (bm 21 136705) rfl rfl (take_ofW HT_.out HW_.out (by kernel_rfl)) (fun _ _ _ h => h) (Or.inl ⟨by rfl,?_⟩) hHeld ?_ ?_
   rotate_left
   ·rintro w' ⟨s0,s1,s2,s3,s4,s5,s6,s7,s8,s9,s10,s11⟩
    go_simp
    with_reducible rfl
   rotate_left
   ·simp only [Act.put,setIfInBounds_toArray,set_cons_zero,set_cons_succ,i64_w,i32_w]
    rfl
   refine take_ (i:=11) (N:=some 18) (v:=?_) (a':=?_) (bm 21 138753) rfl rfl (take_ofW HT_.out HW_.out (by kernel_rfl)) (fun _ _ _ h => h) (Or.inl ⟨by rfl,?_⟩) hHeld ?_ ?_
   rotate_left
   ·rintro w' ⟨s0,s1,s2,s3,s4,s5,s6,s7,s8,s9,s10,s11⟩
    go_simp
    with_reducible rfl
   rotate_left
   ·simp only [Act.put,setIfInBounds_toArray,set_cons_zero,set_cons_succ,i64_w,i32_w]
    rfl
   refine take_ (i:=13) (N:=some 20) (v:=?_) (a':=?_) (bm 21 146945) rfl rfl (take_ofW HT_.out HW_.out (by kernel_rfl)) (fun _ _ _ h => h) (Or.inl ⟨by rfl,?_⟩) hHeld ?_ ?_
   rotate_left
   ·rintro w' ⟨s0,s1,s2,s3,s4,s5,s6,s7,s8,s9,s10,s11⟩
    go_simp
    with_reducible rfl
   rotate_left
   ·simp only [Act.put,setIfInBounds_toArray,set_cons_zero,set_cons_succ,i64_w,i32_w]
    rfl
   refine pV_ 14 21 (bm 21 163329) HT_.out ?_
   refine pV_ 15 22 (bm 21 196097) HT_.out ?_
   refine pV_ 16 23 (bm 21 261633) HT_.out ?_
   refine one_ (i:=1) (N:=some 8) (bm 21 261635) rfl rfl (one_of HT_.out (by kernel_rfl)) (by decide) (fun K hK => ?_)
   refine goes_ Try.func30 (by kernel_rfl) rfl #[.agg #[.int .i64 a0_0,.int .i64 a0_1,.int .i64 a0_2,.int .i64 a0_3,.int .i64 a0_4,.int .i64 a0_5]] (by rfl) rfl rfl mA ?_
   with_reducible refine (impl_AggOK.calls a0_0 a0_1 a0_2 a0_3 a0_4 a0_5 false _ A3.out).mono ?_
   rintro e w44 ⟨rfl,hb⟩
   refine ⟨_,rfl,?_⟩
   have n0_ := Aside0.mk (blk_below (g:=gb220) (o:=.cells #[.int .i64 a0_0,.int .i64 a0_1,.int .i64 a0_2,.int .i64 a0_3,.int .i64 a0_4,.int .i64 a0_5] 54 (0,0)) (kA BK220.out) hb)
   have n1_ := Aside0.mk (blk_below (g:=gb221) (o:=.cells #[.int .i64 a1_0,.int .i64 a1_1,.int .i64 a1_2,.int .i64 a1_3,.int .i64 a1_4,.int .i64 a1_5] 54 (0,0)) (kA BK221.out) hb)
   have n2_ := Aside0.mk (blk_below (g:=gb222) (o:=.cells #[.int .i64 0,.int .i64 0,.int .i64 0,.int .i64 0,.int .i64 0,.int .i64 0] 54 (0,0)) (kA BK222.out) hb)
   have n3_ := Aside0.mk (below_step bA hb)
   clear BK220
   clear BK221
   clear BK222
   clear HB
   have BK220 := n0_
   have BK221 := n1_
   have BK222 := n2_
   have HB := n3_
   clear n0_ n1_ n2_ n3_
   (try clear hb)
   (try clear hb2)
   (try clear hk)
   (try clear hi)
   refine hK.out _ _ ⟨(blk_cell BK220.out 0).trans rfl,(blk_cell BK220.out 1).trans rfl,(blk_cell BK220.out 2).trans rfl,(blk_cell BK220.out 3).trans rfl,(blk_cell BK220.out 4).trans rfl,(blk_cell BK220.out 5).trans rfl,(blk_cell BK221.out 0).trans rfl,(blk_cell BK221.out 1).trans rfl,(blk_cell BK221.out 2).trans rfl,(blk_cell BK221.out 3).trans rfl,(blk_cell BK221.out 4).trans rfl,(blk_cell BK221.out 5).trans rfl⟩ (fun hHeld => ?_)
   clear hK K
   refine norm_ (a':=?_) ?_ ?_
   rotate_left
   ·show Act.put _ (some 8) _ = _
    simp only [Act.put,setIfInBounds_toArray,set_cons_zero,set_cons_succ,i64_w,i32_w]
    rfl
   refine pV_ 2 9 (bm 21 261639) HT_.out ?_
   refine pV_ 3 10 (bm 21 261647) HT_.out ?_
   refine pU_ 4 11 (bm 21 261663) HT_.out ?_
   refine pU_ 5 12 (bm 21 261695) HT_.out ?_
   refine pU_ 6 13 (bm 21 261759) HT_.out ?_
   refine pV_ 7 14 (bm 21 261887) HT_.out ?_
   refine pV_ 8 15 (bm 21 262143) HT_.out ?_
   refine one_ (i:=18) (N:=some 25) (bm 21 524287) rfl rfl (one_of HT_.out (by kernel_rfl)) (by decide) (fun K hK => ?_)
   refine Kd.R_lit_step kAny _ 20 ?hg (N:=25) ?hd (xs := ([anyB true,anyI 1,anyB (decide ((wrap64 (a0_0 + a1_0)) > 100000)),anyI 6] : List AnyV)) (inner := [.iface 4 (.bool true),.iface 3 (.int .i64 1),.iface 4 (.bool (decide ((wrap64 (a0_0 + a1_0)) > 100000))),.iface 3 (.int .i64 6)]) (ok := fun _ => True) (okp := fun _ => True) ?hr ?hp (fun _ hk => hk) trivial (Below.refl _ _) (Nat.le_refl _) (by simp) ?_; (case hd => rfl); (case hg => rfl); (case hr => first | (go_simp; done) | (go_simp; rfl)); (case hp => exact (Reps.one (show Kd.M kAny _ _ _ (anyB true) [.iface 4 (.bool true)] from rfl) (Reps.one (show Kd.M kAny _ _ _ (anyI 1) [.iface 3 (.int .i64 1)] from rfl) (Reps.one (show Kd.M kAny _ _ _ (anyB (decide ((wrap64 (a0_0 + a1_0)) > 100000))) [.iface 4 (.bool (decide ((wrap64 (a0_0 + a1_0)) > 100000)))] from rfl) (Reps.one (show Kd.M kAny _ _ _ (anyI 6) [.iface 3 (.int .i64 6)] from rfl) (Reps.none _ _))))))
   intro v236 w45 ho46 hb hg_ hnew_
   clear hg_ hnew_
   (first | rw [← Ny235.out] at ho46 | (simp only [Int.reduceToNat] at ho46; rw [← Ny235.out] at ho46))
   have n0_ := Aside0.mk (Kd.R_lower ho46 (below_size bA))
   have n1_ := Aside0.mk (blk_below (g:=gb220) (o:=.cells #[.int .i64 a0_0,.int .i64 a0_1,.int .i64 a0_2,.int .i64 a0_3,.int .i64 a0_4,.int .i64 a0_5] 54 (0,0)) (kA BK220.out) hb)
   have n2_ := Aside0.mk (blk_below (g:=gb221) (o:=.cells #[.int .i64 a1_0,.int .i64 a1_1,.int .i64 a1_2,.int .i64 a1_3,.int .i64 a1_4,.int .i64 a1_5] 54 (0,0)) (kA BK221.out) hb)
   have n3_ := Aside0.mk (blk_below (g:=gb222) (o:=.cells #[.int .i64 0,.int .i64 0,.int .i64 0,.int .i64 0,.int .i64 0,.int .i64 0] 54 (0,0)) (kA BK222.out) hb)
   have n4_ := Aside0.mk (below_step bA hb)
   clear BK220
   clear BK221
   clear BK222
   clear HB
   have HO237 := n0_
   have BK220 := n1_
   have BK221 := n2_
   have BK222 := n3_
   have HB := n4_
   clear n0_ n1_ n2_ n3_ n4_
   clear hb ho46
   obtain ⟨Ao47,co47,eo47⟩ := Kd.R_slice HO237.out
   (first | subst eo47 | (injection eo47 with f1_ f2_ f3_; have f4_ := f1_.symm; have f5_ := f3_.symm; clear f1_ f2_ f3_; subst f4_; subst f5_))
   refine hK.out _ _ ⟨(blk_cell BK220.out 0).trans rfl,(blk_cell BK220.out 1).trans rfl,(blk_cell BK220.out 2).trans rfl,(blk_cell BK220.out 3).trans rfl,(blk_cell BK220.out 4).trans rfl,(blk_cell BK220.out 5).trans rfl,(blk_cell BK221.out 0).trans rfl,(blk_cell BK221.out 1).trans rfl,(blk_cell BK221.out 2).trans rfl,(blk_cell BK221.out 3).trans rfl,(blk_cell BK221.out 4).trans rfl,(blk_cell BK221.out 5).trans rfl⟩ (fun hHeld => ?_)
   clear hK K
   refine norm_ (a':=?_) ?_ ?_
   rotate_left
   ·show Act.put _ (some 25) _ = _
    simp only [Act.put,setIfInBounds_toArray,set_cons_zero,set_cons_succ,i64_w,i32_w]
    rfl
   refine one_ (i:=19) (N:=some 26) (bm 21 1048575) rfl rfl (one_of HT_.out (by kernel_rfl)) (by decide) (fun K hK => ?_)
   refine goes_ Try.func51 (by kernel_rfl) rfl #[.slice Ao47 y235.length co47] (by rfl) rfl rfl mA ?_
   with_reducible refine (impl_first.calls k _ _ y235 t238 _ ?side1 ?side2 A37.out).mono ?_
   (case side1 => repeat (first | exact (Kd.R_reads' HO237.out).2.2 | (with_reducible refine Kd.C_alloc ?_ _) | (with_reducible refine Kd.C_drewN ?_ _) | (with_reducible refine Kd.C_drew ?_)))
   (case side2 => exact (Kd.R_reads' HO237.out).2.1)
   rintro e w' ⟨rfl,⟨nd,rfl⟩⟩
   refine ⟨_,rfl,?_⟩
   refine hK.out _ _ ⟨(blk_cell BK220.out 0).trans rfl,(blk_cell BK220.out 1).trans rfl,(blk_cell BK220.out 2).trans rfl,(blk_cell BK220.out 3).trans rfl,(blk_cell BK220.out 4).trans rfl,(blk_cell BK220.out 5).trans rfl,(blk_cell BK221.out 0).trans rfl,(blk_cell BK221.out 1).trans rfl,(blk_cell BK221.out 2).trans rfl,(blk_cell BK221.out 3).trans rfl,(blk_cell BK221.out 4).trans rfl,(blk_cell BK221.out 5).trans rfl⟩ (fun hHeld => ?_)
   clear hK K
   refine norm_ (a':=?_) ?_ ?_
   rotate_left
   ·show Act.put _ (some 26) _ = _
    simp only [Act.put,setIfInBounds_toArray,set_cons_zero,set_cons_succ,i64_w,i32_w]
    rfl
   refine pV_ 20 6 (bm 21 2097151) HT_.out ?_
   refine done_ (done_of HT_.out (by kernel_rfl)) ?_
   have hnb48 := NB220_221.out
   have hnc48 := NB221_220.out
   have hnb49 := NB220_222.out
   have hnc49 := NB222_220.out
   have hcz50_0 : w45.cell? ⟨gb220,0,none⟩ = some (.int .i64 a0_0) := (blk_cell BK220.out 0).trans rfl
   have hcz50_1 : w45.cell? ⟨gb220,1,none⟩ = some (.int .i64 a0_1) := (blk_cell BK220.out 1).trans rfl
   have hcz50_2 : w45.cell? ⟨gb220,2,none⟩ = some (.int .i64 a0_2) := (blk_cell BK220.out 2).trans rfl
   have hcz50_3 : w45.cell? ⟨gb220,3,none⟩ = some (.int .i64 a0_3) := (blk_cell BK220.out 3).trans rfl
   have hcz50_4 : w45.cell? ⟨gb220,4,none⟩ = some (.int .i64 a0_4) := (blk_cell BK220.out 4).trans rfl
   have hcz50_5 : w45.cell? ⟨gb220,5,none⟩ = some (.int .i64 a0_5) := (blk_cell BK220.out 5).trans rfl
   have hfz50_0 := blk_frozen BK220.out 0
   have hfz50_1 := blk_frozen BK220.out 1
   have hfz50_2 := blk_frozen BK220.out 2
   have hfz50_3 := blk_frozen BK220.out 3
   have hfz50_4 := blk_frozen BK220.out 4
   have hfz50_5 := blk_frozen BK220.out 5
   have hnb51 := NB221_222.out
   have hnc51 := NB222_221.out
   have hcz52_0 : w45.cell? ⟨gb221,0,none⟩ = some (.int .i64 a1_0) := (blk_cell BK221.out 0).trans rfl
   have hcz52_1 : w45.cell? ⟨gb221,1,none⟩ = some (.int .i64 a1_1) := (blk_cell BK221.out 1).trans rfl
   have hcz52_2 : w45.cell? ⟨gb221,2,none⟩ = some (.int .i64 a1_2) := (blk_cell BK221.out 2).trans rfl
   have hcz52_3 : w45.cell? ⟨gb221,3,none⟩ = some (.int .i64 a1_3) := (blk_cell BK221.out 3).trans rfl
   have hcz52_4 : w45.cell? ⟨gb221,4,none⟩ = some (.int .i64 a1_4) := (blk_cell BK221.out 4).trans rfl
   have hcz52_5 : w45.cell? ⟨gb221,5,none⟩ = some (.int .i64 a1_5) := (blk_cell BK221.out 5).trans rfl
   have hfz52_0 := blk_frozen BK221.out 0
   have hfz52_1 := blk_frozen BK221.out 1
   have hfz52_2 := blk_frozen BK221.out 2
   have hfz52_3 := blk_frozen BK221.out 3
   have hfz52_4 := blk_frozen BK221.out 4
   have hfz52_5 := blk_frozen BK221.out 5
   try go_wp2_with (first | ((with_reducible refine gate_callee (f:=68) rfl ?_); refine goesL_ (some 33) rfl rfl Try.func68 (by kernel_rfl) rfl #[.agg #[.int .i64 a0_0,.int .i64 a0_1,.int .i64 a0_2,.int .i64 a0_3,.int .i64 a0_4,.int .i64 a0_5],.agg #[.int .i64 a1_0,.int .i64 a1_1,.int .i64 a1_2,.int .i64 a1_3,.int .i64 a1_4,.int .i64 a1_5]] rfl mA ?_; (with_reducible refine (impl_Agg_merged.calls a0_0 a0_1 a0_2 a0_3 a0_4 a0_5 a1_0 a1_1 a1_2 a1_3 a1_4 a1_5 t239 t240 t241 t242 t243 t244 _ A39.out).mono ?_); rintro e w53 ⟨rfl,hb⟩; refine ⟨_,rfl,?_⟩; have n0_ := Aside0.mk (Kd.R_below (rA HO237.out) hb); have n1_ := Aside0.mk (blk_below (g:=gb220) (o:=.cells #[.int .i64 a0_0,.int .i64 a0_1,.int .i64 a0_2,.int .i64 a0_3,.int .i64 a0_4,.int .i64 a0_5] 54 (0,0)) (kA BK220.out) hb); have n2_ := Aside0.mk (blk_below (g:=gb221) (o:=.cells #[.int .i64 a1_0,.int .i64 a1_1,.int .i64 a1_2,.int .i64 a1_3,.int .i64 a1_4,.int .i64 a1_5] 54 (0,0)) (kA BK221.out) hb); have n3_ := Aside0.mk (blk_below (g:=gb222) (o:=.cells #[.int .i64 0,.int .i64 0,.int .i64 0,.int .i64 0,.int .i64 0,.int .i64 0] 54 (0,0)) (kA BK222.out) hb); have n4_ := Aside0.mk (below_step bA hb); clear HO237; clear BK220; clear BK221; clear BK222; clear HB; have HO237 := n0_; have BK220 := n1_; have BK221 := n2_; have BK222 := n3_; have HB := n4_; clear n0_ n1_ n2_ n3_ n4_; (try clear hb); (try clear hb2); (try clear hk); (try clear hi); have hcz54_0 : w53.cell? ⟨gb222,0,none⟩ = some (.int .i64 0) := (blk_cell BK222.out 0).trans rfl; have hcz54_1 : w53.cell? ⟨gb222,1,none⟩ = some (.int .i64 0) := (blk_cell BK222.out 1).trans rfl; have hcz54_2 : w53.cell? ⟨gb222,2,none⟩ = some (.int .i64 0) := (blk_cell BK222.out 2).trans rfl; have hcz54_3 : w53.cell? ⟨gb222,3,none⟩ = some (.int .i64 0) := (blk_cell BK222.out 3).trans rfl; have hcz54_4 : w53.cell? ⟨gb222,4,none⟩ = some (.int .i64 0) := (blk_cell BK222.out 4).trans rfl; have hcz54_5 : w53.cell? ⟨gb222,5,none⟩ = some (.int .i64 0) := (blk_cell BK222.out 5).trans rfl; have hfz54_0 := blk_frozen BK222.out 0; have hfz54_1 := blk_frozen BK222.out 1; have hfz54_2 := blk_frozen BK222.out 2; have hfz54_3 := blk_frozen BK222.out 3; have hfz54_4 := blk_frozen BK222.out 4; have hfz54_5 := blk_frozen BK222.out 5))
   refine bodyPost_ret (results_ct rfl _ _ gb222 54 #[.int .i64 t239,.int .i64 t240,.int .i64 t241,.int .i64 t242,.int .i64 t243,.int .i64 t244] (0,0) _ rfl (by (with_reducible repeat (first | refine blk_drewN ?_ _ | refine blk_drew ?_ | refine blk_alloc ?_ _)); refine blk_put (cs := #[.int .i64 t239,.int .i64 t240,.int .i64 t241,.int .i64 t242,.int .i64 t243,.int .i64 0]) ?_ 5 _ rfl; (with_reducible repeat (first | refine blk_drewN ?_ _ | refine blk_drew ?_ | refine blk_alloc ?_ _)); refine blk_put (cs := #[.int .i64 t239,.int .i64 t240,.int .i64 t241,.int .i64 t242,.int .i64 0,.int .i64 0]) ?_ 4 _ rfl; (with_reducible repeat (first | refine blk_drewN ?_ _ | refine blk_drew ?_ | refine blk_alloc ?_ _)); refine blk_put (cs := #[.int .i64 t239,.int .i64 t240,.int .i64 t241,.int .i64 0,.int .i64 0,.int .i64 0]) ?_ 3 _ rfl; (with_reducible repeat (first | refine blk_drewN ?_ _ | refine blk_drew ?_ | refine blk_alloc ?_ _)); refine blk_put (cs := #[.int .i64 t239,.int .i64 t240,.int .i64 0,.int .i64 0,.int .i64 0,.int .i64 0]) ?_ 2 _ rfl; (with_reducible repeat (first | refine blk_drewN ?_ _ | refine blk_drew ?_ | refine blk_alloc ?_ _)); refine blk_put (cs := #[.int .i64 t239,.int .i64 0,.int .i64 0,.int .i64 0,.int .i64 0,.int .i64 0]) ?_ 1 _ rfl; (with_reducible repeat (first | refine blk_drewN ?_ _ | refine blk_drew ?_ | refine blk_alloc ?_ _)); refine blk_put (cs := #[.int .i64 0,.int .i64 0,.int .i64 0,.int .i64 0,.int .i64 0,.int .i64 0]) ?_ 0 _ rfl; (with_reducible repeat (first | refine blk_drewN ?_ _ | refine blk_drew ?_ | refine blk_alloc ?_ _)); exact BK222.out) Try.underlying54 rfl (by kernel_rfl)) rfl ?_
   exact ⟨by first | rfl | (simp only [i64_w,i32_w] <;> rfl) | (simp [errW_none,errW_some] <;> rfl) | (simp [*,errW_none,errW_some] <;> rfl),bA⟩
  ·rw [if_neg c38] at H
   have c38b0 : (t238 == 0) = false := beq_eq_false_iff_ne.mpr c38
   have c38b1 : (t238 != 0) = true := bne_iff_ne.mpr c38
   simp only [Option.some.injEq,Prod.mk.injEq] at H
   obtain ⟨rfl,rfl,rfl,rfl,rfl,rfl,rfl⟩ := H
   go_enter Try.func29,Try.ntmps29
   try go_wp2_with (first | ((with_reducible refine gate_dst (N:=2) rfl ?_); refine box_event ?hg (N:=2) ?hd (cs := #[.int .i64 a0_0,.int .i64 a0_1,.int .i64 a0_2,.int .i64 a0_3,.int .i64 a0_4,.int .i64 a0_5]) (t:=54) ?hr ?_; (case hd => rfl); (case hg => rfl); (case hr => first | (go_simp; done) | (go_simp; rfl)); intro gb220 hg w55 hbox hb; have n0_ := Aside0.mk (below_step bA hb); have n1_ := Aside0.mk (hbox); have n2_ := Aside0.mk ((by rw [hg]; exact (below_size bA) : w.heap.size ≤ gb220)); have n3_ := Aside0.mk ((by rw [hg]; exact (below_size bA) : w.heap.size ≤ gb220)); clear HB; have HB := n0_; have BK220 := n1_; have GW220 := n2_; have GE220 := n3_; clear n0_ n1_ n2_ n3_; clear hb hbox hg) | ((with_reducible refine gate_dst (N:=3) rfl ?_); refine box_event ?hg (N:=3) ?hd (cs := #[.int .i64 a1_0,.int .i64 a1_1,.int .i64 a1_2,.int .i64 a1_3,.int .i64 a1_4,.int .i64 a1_5]) (t:=54) ?hr ?_; (case hd => rfl); (case hg => rfl); (case hr => first | (go_simp; done) | (go_simp; rfl)); intro gb221 hg w56 hbox hb; have n0_ := Aside0.mk (blk_below (g:=gb220) (o:=.cells #[.int .i64 a0_0,.int .i64 a0_1,.int .i64 a0_2,.int .i64 a0_3,.int .i64 a0_4,.int .i64 a0_5] 54 (0,0)) (kA BK220.out) hb); have n1_ := Aside0.mk (below_step bA hb); have n2_ := Aside0.mk (hbox); have n3_ := Aside0.mk ((by rw [hg]; exact (below_size bA) : w.heap.size ≤ gb221)); have n4_ := Aside0.mk ((by rw [hg]; exact (below_size bA) : w.heap.size ≤ gb221)); have n5_ := Aside0.mk ((by rw [hg]; exact Nat.ne_of_lt (blk_lt (g:=gb220) (o:=.cells #[.int .i64 a0_0,.int .i64 a0_1,.int .i64 a0_2,.int .i64 a0_3,.int .i64 a0_4,.int .i64 a0_5] 54 (0,0)) (kA BK220.out)) : gb220 ≠ gb221)); have n6_ := Aside0.mk ((by rw [hg]; exact Nat.ne_of_gt (blk_lt (g:=gb220) (o:=.cells #[.int .i64 a0_0,.int .i64 a0_1,.int .i64 a0_2,.int .i64 a0_3,.int .i64 a0_4,.int .i64 a0_5] 54 (0,0)) (kA BK220.out)) : gb221 ≠ gb220)); clear BK220; clear HB; have BK220 := n0_; have HB := n1_; have BK221 := n2_; have GW221 := n3_; have GE221 := n4_; have NB220_221 := n5_; have NB221_220 := n6_; clear n0_ n1_ n2_ n3_ n4_ n5_ n6_; clear hb hbox hg) | ((with_reducible refine gate_dst (N:=4) rfl ?_); refine box_event ?hg (N:=4) ?hd (cs := #[.int .i64 0,.int .i64 0,.int .i64 0,.int .i64 0,.int .i64 0,.int .i64 0]) (t:=54) ?hr ?_; (case hd => rfl); (case hg => rfl); (case hr => first | (go_simp; done) | (go_simp; rfl)); intro gb222 hg w57 hbox hb; have n0_ := Aside0.mk (blk_below (g:=gb220) (o:=.cells #[.int .i64 a0_0,.int .i64 a0_1,.int .i64 a0_2,.int .i64 a0_3,.int .i64 a0_4,.int .i64 a0_5] 54 (0,0)) (kA BK220.out) hb); have n1_ := Aside0.mk (blk_below (g:=gb221) (o:=.cells #[.int .i64 a1_0,.int .i64 a1_1,.int .i64 a1_2,.int .i64 a1_3,.int .i64 a1_4,.int .i64 a1_5] 54 (0,0)) (kA BK221.out) hb); have n2_ := Aside0.mk (below_step bA hb); have n3_ := Aside0.mk (hbox); have n4_ := Aside0.mk ((by rw [hg]; exact (below_size bA) : w.heap.size ≤ gb222)); have n5_ := Aside0.mk ((by rw [hg]; exact (below_size bA) : w.heap.size ≤ gb222)); have n6_ := Aside0.mk ((by rw [hg]; exact Nat.ne_of_lt (blk_lt (g:=gb220) (o:=.cells #[.int .i64 a0_0,.int .i64 a0_1,.int .i64 a0_2,.int .i64 a0_3,.int .i64 a0_4,.int .i64 a0_5] 54 (0,0)) (kA BK220.out)) : gb220 ≠ gb222)); have n7_ := Aside0.mk ((by rw [hg]; exact Nat.ne_of_gt (blk_lt (g:=gb220) (o:=.cells #[.int .i64 a0_0,.int .i64 a0_1,.int .i64 a0_2,.int .i64 a0_3,.int .i64 a0_4,.int .i64 a0_5] 54 (0,0)) (kA BK220.out)) : gb222 ≠ gb220)); have n8_ := Aside0.mk ((by rw [hg]; exact Nat.ne_of_lt (blk_lt (g:=gb221) (o:=.cells #[.int .i64 a1_0,.int .i64 a1_1,.int .i64 a1_2,.int .i64 a1_3,.int .i64 a1_4,.int .i64 a1_5] 54 (0,0)) (kA BK221.out)) : gb221 ≠ gb222)); have n9_ := Aside0.mk ((by rw [hg]; exact Nat.ne_of_gt (blk_lt (g:=gb221) (o:=.cells #[.int .i64 a1_0,.int .i64 a1_1,.int .i64 a1_2,.int .i64 a1_3,.int .i64 a1_4,.int .i64 a1_5] 54 (0,0)) (kA BK221.out)) : gb222 ≠ gb221)); clear BK220; clear BK221; clear HB; have BK220 := n0_; have BK221 := n1_; have HB := n2_; have BK222 := n3_; have GW222 := n4_; have GE222 := n5_; have NB220_222 := n6_; have NB222_220 := n7_; have NB221_222 := n8_; have NB222_221 := n9_; clear n0_ n1_ n2_ n3_ n4_ n5_ n6_ n7_ n8_ n9_; clear hb hbox hg))
   have n0_ := Aside0.mk (blk_drew BK220.out)
   have n1_ := Aside0.mk (blk_drew BK221.out)
   have n2_ := Aside0.mk (blk_drew BK222.out)
   have n3_ := Aside0.mk (below_drew1 HB.out)
   clear BK220
   clear BK221
   clear BK222
   clear HB
   have BK220 := n0_
   have BK221 := n1_
   have BK222 := n2_
   have HB := n3_
   clear n0_ n1_ n2_ n3_
   refine start_ (n:=21) (S:=fun w' => w'.cell? ⟨gb220,0,none⟩ = some (.int .i64 a0_0) ∧ w'.cell? ⟨gb220,1,none⟩ = some (.int .i64 a0_1) ∧ w'.cell? ⟨gb220,2,none⟩ = some (.int .i64 a0_2) ∧ w'.cell? ⟨gb220,3,none⟩ = some (.int .i64 a0_3) ∧ w'.cell? ⟨gb220,4,none⟩ = some (.int .i64 a0_4) ∧ w'.cell? ⟨gb220,5,none⟩ = some (.int .i64 a0_5) ∧ w'.cell? ⟨gb221,0,none⟩ = some (.int .i64 a1_0) ∧ w'.cell? ⟨gb221,1,none⟩ = some (.int .i64 a1_1) ∧ w'.cell? ⟨gb221,2,none⟩ = some (.int .i64 a1_2) ∧ w'.cell? ⟨gb221,3,none⟩ = some (.int .i64 a1_3) ∧ w'.cell? ⟨gb221,4,none⟩ = some (.int .i64 a1_4) ∧ w'.cell? ⟨gb221,5,none⟩ = some (.int .i64 a1_5)) (ds := []) (bm 21 0) (by kernel_rfl) rfl rfl ⟨(blk_cell BK220.out 0).trans rfl,(blk_cell BK220.out 1).trans rfl,(blk_cell BK220.out 2).trans rfl,(blk_cell BK220.out 3).trans rfl,(blk_cell BK220.out 4).trans rfl,(blk_cell BK220.out 5).trans rfl,(blk_cell BK221.out 0).trans rfl,(blk_cell BK221.out 1).trans rfl,(blk_cell BK221.out 2).trans rfl,(blk_cell BK221.out 3).trans rfl,(blk_cell BK221.out 4).trans rfl,(blk_cell BK221.out 5).trans rfl⟩ (fun hHeld => ?_); refine with_tabW impl_MergeAgg.tab1 impl_MergeAgg.bits1 (fun HT_ HW_ => ?_)
   generalize w57.drew = w58 at BK220 BK221 BK222 HB hHeld ⊢
   refine pV_ 9 16 (bm 21 512) HT_.out ?_
   refine pV_ 10 17 (bm 21 1536) HT_.out ?_
   refine pV_ 12 19 (bm 21 5632) HT_.out ?_
   refine pV_ 17 24 (bm 21 136704) HT_.out ?_
   refine take_ (i:=0) (N:=some 7) (v:=?_) (a':=?_) (bm 21 136705) rfl rfl (take_ofW HT_.out HW_.out (by kernel_rfl)) (fun _ _ _ h => h) (Or.inl ⟨by rfl,?_⟩) hHeld ?_ ?_
   rotate_left
   ·rintro w' ⟨s0,s1,s2,s3,s4,s5,s6,s7,s8,s9,s10,s11⟩
    go_simp
    with_reducible rfl
   rotate_left
   ·simp only [Act.put,setIfInBounds_toArray,set_cons_zero,set_cons_succ,i64_w,i32_w]
    rfl
   refine take_ (i:=11) (N:=some 18) (v:=?_) (a':=?_) (bm 21 138753) rfl rfl (take_ofW HT_.out HW_.out (by kernel_rfl)) (fun _ _ _ h => h) (Or.inl ⟨by rfl,?_⟩) hHeld ?_ ?_
   rotate_left
   ·rintro w' ⟨s0,s1,s2,s3,s4,s5,s6,s7,s8,s9,s10,s11⟩
    go_simp
    with_reducible rfl
   rotate_left
   ·simp only [Act.put,setIfInBounds_toArray,set_cons_zero,set_cons_succ,i64_w,i32_w]
    rfl
   refine take_ (i:=13) (N:=some 20) (v:=?_) (a':=?_) (bm 21 146945) rfl rfl (take_ofW HT_.out HW_.out (by kernel_rfl)) (fun _ _ _ h => h) (Or.inl ⟨by rfl,?_⟩) hHeld ?_ ?_
   rotate_left
   ·rintro w' ⟨s0,s1,s2,s3,s4,s5,s6,s7,s8,s9,s10,s11⟩
    go_simp
    with_reducible rfl
   rotate_left
   ·simp only [Act.put,setIfInBounds_toArray,set_cons_zero,set_cons_succ,i64_w,i32_w]
    rfl
   refine pV_ 14 21 (bm 21 163329) HT_.out ?_
   refine pV_ 15 22 (bm 21 196097) HT_.out ?_
   refine pV_ 16 23 (bm 21 261633) HT_.out ?_
   refine one_ (i:=1) (N:=some 8) (bm 21 261635) rfl rfl (one_of HT_.out (by kernel_rfl)) (by decide) (fun K hK => ?_)
   refine goes_ Try.func30 (by kernel_rfl) rfl #[.agg #[.int .i64 a0_0,.int .i64 a0_1,.int .i64 a0_2,.int .i64 a0_3,.int .i64 a0_4,.int .i64 a0_5]] (by rfl) rfl rfl mA ?_
   with_reducible refine (impl_AggOK.calls a0_0 a0_1 a0_2 a0_3 a0_4 a0_5 false _ A3.out).mono ?_
   rintro e w59 ⟨rfl,hb⟩
   refine ⟨_,rfl,?_⟩
   have n0_ := Aside0.mk (blk_below (g:=gb220) (o:=.cells #[.int .i64 a0_0,.int .i64 a0_1,.int .i64 a0_2,.int .i64 a0_3,.int .i64 a0_4,.int .i64 a0_5] 54 (0,0)) (kA BK220.out) hb)
   have n1_ := Aside0.mk (blk_below (g:=gb221) (o:=.cells #[.int .i64 a1_0,.int .i64 a1_1,.int .i64 a1_2,.int .i64 a1_3,.int .i64 a1_4,.int .i64 a1_5] 54 (0,0)) (kA BK221.out) hb)
   have n2_ := Aside0.mk (blk_below (g:=gb222) (o:=.cells #[.int .i64 0,.int .i64 0,.int .i64 0,.int .i64 0,.int .i64 0,.int .i64 0] 54 (0,0)) (kA BK222.out) hb)
   have n3_ := Aside0.mk (below_step bA hb)
   clear BK220
   clear BK221
   clear BK222
   clear HB
   have BK220 := n0_
   have BK221 := n1_
   have BK222 := n2_
   have HB := n3_
   clear n0_ n1_ n2_ n3_
   (try clear hb)
   (try clear hb2)
   (try clear hk)
   (try clear hi)
   refine hK.out _ _ ⟨(blk_cell BK220.out 0).trans rfl,(blk_cell BK220.out 1).trans rfl,(blk_cell BK220.out 2).trans rfl,(blk_cell BK220.out 3).trans rfl,(blk_cell BK220.out 4).trans rfl,(blk_cell BK220.out 5).trans rfl,(blk_cell BK221.out 0).trans rfl,(blk_cell BK221.out 1).trans rfl,(blk_cell BK221.out 2).trans rfl,(blk_cell BK221.out 3).trans rfl,(blk_cell BK221.out 4).trans rfl,(blk_cell BK221.out 5).trans rfl⟩ (fun hHeld => ?_)
   clear hK K
   refine norm_ (a':=?_) ?_ ?_
   rotate_left
   ·show Act.put _ (some 8) _ = _
    simp only [Act.put,setIfInBounds_toArray,set_cons_zero,set_cons_succ,i64_w,i32_w]
    rfl
   refine pV_ 2 9 (bm 21 261639) HT_.out ?_
   refine pV_ 3 10 (bm 21 261647) HT_.out ?_
   refine pU_ 4 11 (bm 21 261663) HT_.out ?_
   refine pU_ 5 12 (bm 21 261695) HT_.out ?_
   refine pU_ 6 13 (bm 21 261759) HT_.out ?_
   refine pV_ 7 14 (bm 21 261887) HT_.out ?_
   refine pV_ 8 15 (bm 21 262143) HT_.out ?_
   refine one_ (i:=18) (N:=some 25) (bm 21 524287) rfl rfl (one_of HT_.out (by kernel_rfl)) (by decide) (fun K hK => ?_)
   refine Kd.R_lit_step kAny _ 20 ?hg (N:=25) ?hd (xs := ([anyB true,anyI 1,anyB (decide ((wrap64 (a0_0 + a1_0)) > 100000)),anyI 6] : List AnyV)) (inner := [.iface 4 (.bool true),.iface 3 (.int .i64 1),.iface 4 (.bool (decide ((wrap64 (a0_0 + a1_0)) > 100000))),.iface 3 (.int .i64 6)]) (ok := fun _ => True) (okp := fun _ => True) ?hr ?hp (fun _ hk => hk) trivial (Below.refl _ _) (Nat.le_refl _) (by simp) ?_; (case hd => rfl); (case hg => rfl); (case hr => first | (go_simp; done) | (go_simp; rfl)); (case hp => exact (Reps.one (show Kd.M kAny _ _ _ (anyB true) [.iface 4 (.bool true)] from rfl) (Reps.one (show Kd.M kAny _ _ _ (anyI 1) [.iface 3 (.int .i64 1)] from rfl) (Reps.one (show Kd.M kAny _ _ _ (anyB (decide ((wrap64 (a0_0 + a1_0)) > 100000))) [.iface 4 (.bool (decide ((wrap64 (a0_0 + a1_0)) > 100000)))] from rfl) (Reps.one (show Kd.M kAny _ _ _ (anyI 6) [.iface 3 (.int .i64 6)] from rfl) (Reps.none _ _))))))
   intro v236 w60 ho61 hb hg_ hnew_
   clear hg_ hnew_
   (first | rw [← Ny235.out] at ho61 | (simp only [Int.reduceToNat] at ho61; rw [← Ny235.out] at ho61))
   have n0_ := Aside0.mk (Kd.R_lower ho61 (below_size bA))
   have n1_ := Aside0.mk (blk_below (g:=gb220) (o:=.cells #[.int .i64 a0_0,.int .i64 a0_1,.int .i64 a0_2,.int .i64 a0_3,.int .i64 a0_4,.int .i64 a0_5] 54 (0,0)) (kA BK220.out) hb)
   have n2_ := Aside0.mk (blk_below (g:=gb221) (o:=.cells #[.int .i64 a1_0,.int .i64 a1_1,.int .i64 a1_2,.int .i64 a1_3,.int .i64 a1_4,.int .i64 a1_5] 54 (0,0)) (kA BK221.out) hb)
   have n3_ := Aside0.mk (blk_below (g:=gb222) (o:=.cells #[.int .i64 0,.int .i64 0,.int .i64 0,.int .i64 0,.int .i64 0,.int .i64 0] 54 (0,0)) (kA BK222.out) hb)
   have n4_ := Aside0.mk (below_step bA hb)
   clear BK220
   clear BK221
   clear BK222
   clear HB
   have HO237 := n0_
   have BK220 := n1_
   have BK221 := n2_
   have BK222 := n3_
   have HB := n4_
   clear n0_ n1_ n2_ n3_ n4_
   clear hb ho61
   obtain ⟨Ao62,co62,eo62⟩ := Kd.R_slice HO237.out
   (first | subst eo62 | (injection eo62 with f1_ f2_ f3_; have f4_ := f1_.symm; have f5_ := f3_.symm; clear f1_ f2_ f3_; subst f4_; subst f5_))
   refine hK.out _ _ ⟨(blk_cell BK220.out 0).trans rfl,(blk_cell BK220.out 1).trans rfl,(blk_cell BK220.out 2).trans rfl,(blk_cell BK220.out 3).trans rfl,(blk_cell BK220.out 4).trans rfl,(blk_cell BK220.out 5).trans rfl,(blk_cell BK221.out 0).trans rfl,(blk_cell BK221.out 1).trans rfl,(blk_cell BK221.out 2).trans rfl,(blk_cell BK221.out 3).trans rfl,(blk_cell BK221.out 4).trans rfl,(blk_cell BK221.out 5).trans rfl⟩ (fun hHeld => ?_)
   clear hK K
   refine norm_ (a':=?_) ?_ ?_
   rotate_left
   ·show Act.put _ (some 25) _ = _
    simp only [Act.put,setIfInBounds_toArray,set_cons_zero,set_cons_succ,i64_w,i32_w]
    rfl
   refine one_ (i:=19) (N:=some 26) (bm 21 1048575) rfl rfl (one_of HT_.out (by kernel_rfl)) (by decide) (fun K hK => ?_)
   refine goes_ Try.func51 (by kernel_rfl) rfl #[.slice Ao62 y235.length co62] (by rfl) rfl rfl mA ?_
   with_reducible refine (impl_first.calls k _ _ y235 t238 _ ?side1 ?side2 A37.out).mono ?_
   (case side1 => repeat (first | exact (Kd.R_reads' HO237.out).2.2 | (with_reducible refine Kd.C_alloc ?_ _) | (with_reducible refine Kd.C_drewN ?_ _) | (with_reducible refine Kd.C_drew ?_)))
   (case side2 => exact (Kd.R_reads' HO237.out).2.1)
   rintro e w' ⟨rfl,⟨nd,rfl⟩⟩
   refine ⟨_,rfl,?_⟩
   refine hK.out _ _ ⟨(blk_cell BK220.out 0).trans rfl,(blk_cell BK220.out 1).trans rfl,(blk_cell BK220.out 2).trans rfl,(blk_cell BK220.out 3).trans rfl,(blk_cell BK220.out 4).trans rfl,(blk_cell BK220.out 5).trans rfl,(blk_cell BK221.out 0).trans rfl,(blk_cell BK221.out 1).trans rfl,(blk_cell BK221.out 2).trans rfl,(blk_cell BK221.out 3).trans rfl,(blk_cell BK221.out 4).trans rfl,(blk_cell BK221.out 5).trans rfl⟩ (fun hHeld => ?_)
   clear hK K
   refine norm_ (a':=?_) ?_ ?_
   rotate_left
   ·show Act.put _ (some 26) _ = _
    simp only [Act.put,setIfInBounds_toArray,set_cons_zero,set_cons_succ,i64_w,i32_w]
    rfl
   refine pV_ 20 6 (bm 21 2097151) HT_.out ?_
   refine done_ (done_of HT_.out (by kernel_rfl)) ?_
   have hnb63 := NB222_220.out
   have hnc63 := NB220_222.out
   have hnb64 := NB222_221.out
   have hnc64 := NB221_222.out
   have hcz65_0 : w60.cell? ⟨gb222,0,none⟩ = some (.int .i64 0) := (blk_cell BK222.out 0).trans rfl
   have hcz65_1 : w60.cell? ⟨gb222,1,none⟩ = some (.int .i64 0) := (blk_cell BK222.out 1).trans rfl
   have hcz65_2 : w60.cell? ⟨gb222,2,none⟩ = some (.int .i64 0) := (blk_cell BK222.out 2).trans rfl
   have hcz65_3 : w60.cell? ⟨gb222,3,none⟩ = some (.int .i64 0) := (blk_cell BK222.out 3).trans rfl
   have hcz65_4 : w60.cell? ⟨gb222,4,none⟩ = some (.int .i64 0) := (blk_cell BK222.out 4).trans rfl
   have hcz65_5 : w60.cell? ⟨gb222,5,none⟩ = some (.int .i64 0) := (blk_cell BK222.out 5).trans rfl
   have hfz65_0 := blk_frozen BK222.out 0
   have hfz65_1 := blk_frozen BK222.out 1
   have hfz65_2 := blk_frozen BK222.out 2
   have hfz65_3 := blk_frozen BK222.out 3
   have hfz65_4 := blk_frozen BK222.out 4
   have hfz65_5 := blk_frozen BK222.out 5
   try go_wp2
   refine bodyPost_ret (results_ct rfl _ _ gb222 54 #[.int .i64 0,.int .i64 0,.int .i64 0,.int .i64 0,.int .i64 0,.int .i64 0] (0,0) _ rfl (by (with_reducible repeat (first | refine blk_drewN ?_ _ | refine blk_drew ?_ | refine blk_alloc ?_ _)); refine blk_put (cs := #[.int .i64 0,.int .i64 0,.int .i64 0,.int .i64 0,.int .i64 0,.int .i64 0]) ?_ 5 _ rfl; (with_reducible repeat (first | refine blk_drewN ?_ _ | refine blk_drew ?_ | refine blk_alloc ?_ _)); refine blk_put (cs := #[.int .i64 0,.int .i64 0,.int .i64 0,.int .i64 0,.int .i64 0,.int .i64 0]) ?_ 4 _ rfl; (with_reducible repeat (first | refine blk_drewN ?_ _ | refine blk_drew ?_ | refine blk_alloc ?_ _)); refine blk_put (cs := #[.int .i64 0,.int .i64 0,.int .i64 0,.int .i64 0,.int .i64 0,.int .i64 0]) ?_ 3 _ rfl; (with_reducible repeat (first | refine blk_drewN ?_ _ | refine blk_drew ?_ | refine blk_alloc ?_ _)); refine blk_put (cs := #[.int .i64 0,.int .i64 0,.int .i64 0,.int .i64 0,.int .i64 0,.int .i64 0]) ?_ 2 _ rfl; (with_reducible repeat (first | refine blk_drewN ?_ _ | refine blk_drew ?_ | refine blk_alloc ?_ _)); refine blk_put (cs := #[.int .i64 0,.int .i64 0,.int .i64 0,.int .i64 0,.int .i64 0,.int .i64 0]) ?_ 1 _ rfl; (with_reducible repeat (first | refine blk_drewN ?_ _ | refine blk_drew ?_ | refine blk_alloc ?_ _)); refine blk_put (cs := #[.int .i64 0,.int .i64 0,.int .i64 0,.int .i64 0,.int .i64 0,.int .i64 0]) ?_ 0 _ rfl; (with_reducible repeat (first | refine blk_drewN ?_ _ | refine blk_drew ?_ | refine blk_alloc ?_ _)); exact BK222.out) Try.underlying54 rfl (by kernel_rfl)) rfl ?_
   exact ⟨by first | rfl | (simp only [i64_w,i32_w] <;> rfl) | (simp [errW_none,errW_some] <;> rfl) | (simp [*,errW_none,errW_some] <;> rfl),bA⟩

end Go.Proofs.Yteiolcfgaklafaa.XFnAgg
