-- Printed by this session's own program wip/tools/xprint.py, which widens the kit's print. Not trusted: Lean checks it.
import Derived.Test.YtleifhnoaaphmaaGreatDoorXFnExactWindowOfx0
import Derived.Test.YtleifhnoaaphmaaGreatDoorXFnExactWindowOfx2
import Derived.Test.YtleifhnoaaphmaaGreatDoorXFnExactWindowOfx11
import Derived.Test.YtleifhnoaaphmaaGreatDoorXFnExactWindowOfx12
import Derived.Test.YtleifhnoaaphmaaGreatDoorXFnExactWindowOfx16
namespace Go.Proofs.YtleifhnoaaphmaaGreatDoor.XFnExactWindowOf
open List (setIfInBounds_toArray set_cons_zero set_cons_succ)
open Go.RowKit Go.Proofs.YtleifhnoaaphmaaGreatDoorW.PrintWords Go.Proofs.YtleifhnoaaphmaaGreatDoorW.PrintLast Go.Proofs.YtleifhnoaaphmaaGreatDoorW.PrintMore
attribute [local go_sem] max2_int min2_int max_two min_two max_three min_three max_four min_four   -- for this text's walks alone
set_option linter.unusedVariables false
set_option linter.unusedSimpArgs false

/-! ### impl_WindowOf: function 7 -/
def impl_WindowOf.f (k : Nat) (a0_0 : Int) (a0_1 : Int) (a0_2 : Int) (a0_3 : ByteArray) (a1 : ByteArray) (a2 : Int) (a3 : Int) : Option (Int × Int × Int × Int × Int × Int × Int) := (impl_isLong.f (([a1] : List ByteArray))).bind fun t521 => ((impl_entryOK.f k a0_0 a0_1 a0_2 a0_3).bind fun t522 => ((impl_isRange.f a2 a3).bind fun t523 => ((impl_first.f k (([anyB t521,anyI 2,anyB (!t522),anyI 1,anyB (!t523),anyI 4] : List AnyV))).bind fun t527 => (if t527 = 0 then ((impl_windowOf.f k a0_0 a0_1 a0_2 a0_3 a1 a2 a3).bind fun bt528 => (some (bt528.1,bt528.2.1,bt528.2.2.1,bt528.2.2.2.1,bt528.2.2.2.2.1,bt528.2.2.2.2.2.1,bt528.2.2.2.2.2.2))) else (some (0,0,0,0,0,0,t527))))))
theorem impl_WindowOf.mono : ∀ a0 a1 a2 a3 a4 a5 a6 k,LeO (impl_WindowOf.f k a0 a1 a2 a3 a4 a5 a6) (impl_WindowOf.f (k + 1) a0 a1 a2 a3 a4 a5 a6) := by
 intro a0 a1 a2 a3 a4 a5 a6 k
 unfold impl_WindowOf.f
 repeat' first
   | (with_reducible exact impl_entryOK.mono _ _ _ _ _)
   | (with_reducible exact impl_first.mono _ _)
   | (with_reducible exact impl_windowOf.mono _ _ _ _ _ _ _ _)
   | (with_reducible exact LeO.refl _)
   | (with_reducible exact LeO.none _)
   | (with_reducible refine LeO.ite ?_ ?_)
   | (with_reducible refine LeO.bind ?_ (fun _ => ?_))
   | exact impl_entryOK.mono _ _ _ _ _
   | exact impl_first.mono _ _
   | exact impl_windowOf.mono _ _ _ _ _ _ _ _
   | exact LeO.none _
   | refine LeO.ite ?_ ?_
   | refine LeO.bind ?_ (fun _ => ?_)
def impl_WindowOf.T1 : Bool × List (List Nat × List Nat) := (true,[([],[]),([0],[0]),([1],[1]),([2],[2]),([],[]),([],[]),([5,2],[5]),([6],[6]),([7],[7]),([],[]),([],[]),([],[]),([10,11,6],[10,11]),([12],[12]),([13],[13]),([],[]),([3,4,8,9,14,15],[3,4,8,9,14,15]),([16,12],[16]),([17,17,0,1,2,3,4,5,6,7,8,9,10,11,12,13,14,15,16,17],[17])])
def impl_WindowOf.B1 : List Nat := [0,1,3,7,0,0,39,103,231,0,0,0,3175,7271,15463,0,65535,131071,262143]
theorem impl_WindowOf.tab1 : rtab .any (opsOf Tryz.f7 1) = impl_WindowOf.T1 := by kernel_rfl
theorem impl_WindowOf.bits1 : waitsOk impl_WindowOf.T1.2 impl_WindowOf.B1 = true := by kernel_rfl
set_option maxHeartbeats 8000000 in
set_option maxRecDepth 100000 in
theorem impl_WindowOf.calls (k : Nat) (a0_0 : Int) (a0_1 : Int) (a0_2 : Int) (a0_3 : ByteArray) (a1 : ByteArray) (a2 : Int) (a3 : Int) (r1 : Int) (r2 : Int) (r3 : Int) (r4 : Int) (r5 : Int) (r6 : Int) (r7 : Int) (w : World) (hV : Vars w) (h : impl_WindowOf.f k a0_0 a0_1 a0_2 a0_3 a1 a2 a3 = some (r1,r2,r3,r4,r5,r6,r7)) :
  Calls Tryz.prog 7 #[.agg #[.int .i64 a0_0,.int .i64 a0_1,.int .i64 a0_2,.string a0_3],.string a1,.int .i64 a2,.int .i64 a3] w fun e w' => e = .returned (.tuple #[.agg #[.int .i64 r1,.int .i64 r2,.int .i64 r3,.int .i64 r4,.int .i64 r5,.int .i64 r6],.int .i64 r7]) ∧ Below w.heap.size w w' := by
 have hu29 := Tryz.underlying29
 have hu26 := Tryz.underlying26
 have hua20 := Tryz.underlying20
 have HV := Aside0.mk hV
 clear hV
 have HB := Aside0.mk (Below.refl w.heap.size w)
 have H : ((impl_isLong.f (([a1] : List ByteArray))).bind fun t521 => ((impl_entryOK.f k a0_0 a0_1 a0_2 a0_3).bind fun t522 => ((impl_isRange.f a2 a3).bind fun t523 => ((impl_first.f k (([anyB t521,anyI 2,anyB (!t522),anyI 1,anyB (!t523),anyI 4] : List AnyV))).bind fun t527 => (if t527 = 0 then ((impl_windowOf.f k a0_0 a0_1 a0_2 a0_3 a1 a2 a3).bind fun bt528 => (some (bt528.1,bt528.2.1,bt528.2.2.1,bt528.2.2.2.1,bt528.2.2.2.2.1,bt528.2.2.2.2.2.1,bt528.2.2.2.2.2.2))) else (some (0,0,0,0,0,0,t527))))))) = some (r1,r2,r3,r4,r5,r6,r7) := h
 clear h
 obtain ⟨y518,hy518⟩ : ∃ y_ : List ByteArray,y_ = (([a1] : List ByteArray)) := ⟨_,rfl⟩
 replace H : ((impl_isLong.f y518).bind fun t521 => ((impl_entryOK.f k a0_0 a0_1 a0_2 a0_3).bind fun t522 => ((impl_isRange.f a2 a3).bind fun t523 => ((impl_first.f k (([anyB t521,anyI 2,anyB (!t522),anyI 1,anyB (!t523),anyI 4] : List AnyV))).bind fun t527 => (if t527 = 0 then ((impl_windowOf.f k a0_0 a0_1 a0_2 a0_3 a1 a2 a3).bind fun bt528 => (some (bt528.1,bt528.2.1,bt528.2.2.1,bt528.2.2.2.1,bt528.2.2.2.2.1,bt528.2.2.2.2.2.1,bt528.2.2.2.2.2.2))) else (some (0,0,0,0,0,0,t527))))))) = some (r1,r2,r3,r4,r5,r6,r7) := by first | (rw [hy518]; with_reducible exact H) | (have H2_ := (Option.bind_some _ _).symm.trans H; rw [hy518]; with_reducible exact H2_) | (have H2_ := (Option.bind_some _ _).symm.trans H; with_reducible exact H2_) | with_reducible exact H | (rw [hy518]; exact H) | exact H
 have Ny518 := Aside0.mk hy518
 clear hy518
 replace H := Option.bind_eq_some_iff.mp H
 obtain ⟨t521,A50,H⟩ := H
 try dsimp only at H
 have A5 := Aside0.mk A50
 clear A50
 replace H := Option.bind_eq_some_iff.mp H
 obtain ⟨t522,A60,H⟩ := H
 try dsimp only at H
 have A6 := Aside0.mk A60
 clear A60
 replace H := Option.bind_eq_some_iff.mp H
 obtain ⟨t523,A70,H⟩ := H
 try dsimp only at H
 have A7 := Aside0.mk A70
 clear A70
 obtain ⟨y524,hy524⟩ : ∃ y_ : List AnyV,y_ = (([anyB t521,anyI 2,anyB (!t522),anyI 1,anyB (!t523),anyI 4] : List AnyV)) := ⟨_,rfl⟩
 replace H : ((impl_first.f k y524).bind fun t527 => (if t527 = 0 then ((impl_windowOf.f k a0_0 a0_1 a0_2 a0_3 a1 a2 a3).bind fun bt528 => (some (bt528.1,bt528.2.1,bt528.2.2.1,bt528.2.2.2.1,bt528.2.2.2.2.1,bt528.2.2.2.2.2.1,bt528.2.2.2.2.2.2))) else (some (0,0,0,0,0,0,t527)))) = some (r1,r2,r3,r4,r5,r6,r7) := by first | (rw [hy524]; with_reducible exact H) | (have H2_ := (Option.bind_some _ _).symm.trans H; rw [hy524]; with_reducible exact H2_) | (have H2_ := (Option.bind_some _ _).symm.trans H; with_reducible exact H2_) | with_reducible exact H | (rw [hy524]; exact H) | exact H
 have Ny524 := Aside0.mk hy524
 clear hy524
 replace H := Option.bind_eq_some_iff.mp H
 obtain ⟨t527,A80,H⟩ := H
 try dsimp only at H
 have A8 := Aside0.mk A80
 clear A80
 by_cases c9 : t527 = 0
 ·rw [if_pos c9] at H
  have c9b0 : (t527 == 0) = true := beq_iff_eq.mpr c9
  have c9b1 : (t527 != 0) = false := bne_eq_false_iff_eq.mpr c9
  clear c9
  replace H := Option.bind_eq_some_iff.mp H
  obtain ⟨⟨t528,t529,t530,t531,t532,t533,t534⟩,A100,H⟩ := H
  try dsimp only at H
  have A10 := Aside0.mk A100
  clear A100
  simp only [Option.some.injEq,Prod.mk.injEq] at H
  obtain ⟨rfl,rfl,rfl,rfl,rfl,rfl,rfl⟩ := H
  go_enter Tryz.func7,Tryz.ntmps7
  try go_wp2_with (first | ((with_reducible refine gate_dst (N:=4) rfl ?_); refine box_event ?hg (N:=4) ?hd (cs := #[.int .i64 a0_0,.int .i64 a0_1,.int .i64 a0_2,.string a0_3]) (t:=29) ?hr ?_; (case hd => rfl); (case hg => rfl); (case hr => first | (go_simp; done) | (go_simp; rfl)); intro gb516 hg w11 hbox hb; have n0_ := Aside0.mk (below_step bA hb); have n1_ := Aside0.mk (hbox); have n2_ := Aside0.mk ((gw hg : w.heap.size ≤ gb516)); have n3_ := Aside0.mk ((gw hg : w.heap.size ≤ gb516)); clear HB; have HB := n0_; have BK516 := n1_; have GW516 := n2_; have GE516 := n3_; clear n0_ n1_ n2_ n3_; clear hb hbox hg) | ((with_reducible refine gate_dst (N:=8) rfl ?_); refine box_event ?hg (N:=8) ?hd (cs := #[.int .i64 0,.int .i64 0,.int .i64 0,.int .i64 0,.int .i64 0,.int .i64 0]) (t:=26) ?hr ?_; (case hd => rfl); (case hg => rfl); (case hr => first | (go_simp; done) | (go_simp; rfl)); intro gb517 hg w12 hbox hb; have n0_ := Aside0.mk (blk_below (g:=gb516) (o:=.cells #[.int .i64 a0_0,.int .i64 a0_1,.int .i64 a0_2,.string a0_3] 29 (0,0)) (kA BK516.out) hb); have n1_ := Aside0.mk (below_step bA hb); have n2_ := Aside0.mk (hbox); have n3_ := Aside0.mk ((gw hg : w.heap.size ≤ gb517)); have n4_ := Aside0.mk ((gw hg : w.heap.size ≤ gb517)); have n5_ := Aside0.mk ((by rw [hg]; exact Nat.ne_of_lt (blk_lt (g:=gb516) (o:=.cells #[.int .i64 a0_0,.int .i64 a0_1,.int .i64 a0_2,.string a0_3] 29 (0,0)) (kA BK516.out)) : gb516 ≠ gb517)); have n6_ := Aside0.mk ((by rw [hg]; exact Nat.ne_of_gt (blk_lt (g:=gb516) (o:=.cells #[.int .i64 a0_0,.int .i64 a0_1,.int .i64 a0_2,.string a0_3] 29 (0,0)) (kA BK516.out)) : gb517 ≠ gb516)); clear BK516; clear HB; have BK516 := n0_; have HB := n1_; have BK517 := n2_; have GW517 := n3_; have GE517 := n4_; have NB516_517 := n5_; have NB517_516 := n6_; clear n0_ n1_ n2_ n3_ n4_ n5_ n6_; clear hb hbox hg))
  have n0_ := Aside0.mk (blk_drew BK516.out)
  have n1_ := Aside0.mk (blk_drew BK517.out)
  have n2_ := Aside0.mk (below_drew1 HB.out)
  clear BK516
  clear BK517
  clear HB
  have BK516 := n0_
  have BK517 := n1_
  have HB := n2_
  clear n0_ n1_ n2_
  refine start_ (n:=19) (S:=fun w' => w'.cell? ⟨gb516,0,none⟩ = some (.int .i64 a0_0) ∧ w'.cell? ⟨gb516,1,none⟩ = some (.int .i64 a0_1) ∧ w'.cell? ⟨gb516,2,none⟩ = some (.int .i64 a0_2) ∧ w'.cell? ⟨gb516,3,none⟩ = some (.string a0_3)) (ds := []) (bm 19 0) (by kernel_rfl) rfl rfl ⟨(blk_cell BK516.out 0).trans rfl,(blk_cell BK516.out 1).trans rfl,(blk_cell BK516.out 2).trans rfl,(blk_cell BK516.out 3).trans rfl⟩ (fun hHeld => ?_); refine with_tabW impl_WindowOf.tab1 impl_WindowOf.bits1 (fun HT_ HW_ => ?_)
  generalize w12.drew = w13 at BK516 BK517 HB hHeld ⊢
  refine pV_ 0 11 (bm 19 1) HT_.out ?_
  refine pV_ 4 15 (bm 19 17) HT_.out ?_
  refine pV_ 9 20 (bm 19 529) HT_.out ?_
  refine pV_ 10 21 (bm 19 1553) HT_.out ?_
  refine pV_ 11 22 (bm 19 3601) HT_.out ?_
  refine pV_ 15 26 (bm 19 36369) HT_.out ?_
  refine take_ (i:=5) (N:=some 16) (v:=?_) (a':=?_) (bm 19 36401) rfl rfl (take_ofW HT_.out HW_.out (by kernel_rfl)) (fun _ _ _ h => h) (Or.inl ⟨by rfl,?_⟩) hHeld ?_ ?_
  rotate_left
  ·rintro w' ⟨s0,s1,s2,s3⟩
   go_simp
   with_reducible rfl
  rotate_left
  ·simp only [Act.put,setIfInBounds_toArray,set_cons_zero,set_cons_succ,i64_w,i32_w]
   rfl
  refine one_ (i:=1) (N:=some 12) (bm 19 36403) rfl rfl (one_of HT_.out (by kernel_rfl)) (by decide) (fun K hK => ?_)
  refine Kd.R_lit_step Kd.string _ 9 ?hg (N:=12) ?hd (xs := ([a1] : List ByteArray)) (inner := [.string a1]) (ok := fun _ => True) (okp := fun _ => True) ?hr ?hp (fun _ hk => hk) trivial (Below.refl _ _) (Nat.le_refl _) (by simp) ?_; (case hd => rfl); (case hg => rfl); (case hr => first | (go_simp; done) | (go_simp; rfl)); (case hp => exact (Reps.one (show Kd.M Kd.string _ _ _ a1 [.string a1] from rfl) (Reps.none _ _)))
  intro v519 w14 ho15 hb hg_ hnew_
  clear hg_ hnew_
  (first | rw [← Ny518.out] at ho15 | (simp only [Int.reduceToNat] at ho15; rw [← Ny518.out] at ho15))
  have n0_ := Aside0.mk (Kd.R_lower ho15 (below_size bA))
  have n1_ := Aside0.mk (blk_below (g:=gb516) (o:=.cells #[.int .i64 a0_0,.int .i64 a0_1,.int .i64 a0_2,.string a0_3] 29 (0,0)) (kA BK516.out) hb)
  have n2_ := Aside0.mk (blk_below (g:=gb517) (o:=.cells #[.int .i64 0,.int .i64 0,.int .i64 0,.int .i64 0,.int .i64 0,.int .i64 0] 26 (0,0)) (kA BK517.out) hb)
  have n3_ := Aside0.mk (below_step bA hb)
  clear BK516
  clear BK517
  clear HB
  have HO520 := n0_
  have BK516 := n1_
  have BK517 := n2_
  have HB := n3_
  clear n0_ n1_ n2_ n3_
  clear hb ho15
  obtain ⟨Ao16,co16,eo16⟩ := Kd.R_slice HO520.out
  (first | subst eo16 | (injection eo16 with f1_ f2_ f3_; have f4_ := f1_.symm; have f5_ := f3_.symm; clear f1_ f2_ f3_; subst f4_; subst f5_))
  refine hK.out _ _ ⟨(blk_cell BK516.out 0).trans rfl,(blk_cell BK516.out 1).trans rfl,(blk_cell BK516.out 2).trans rfl,(blk_cell BK516.out 3).trans rfl⟩ (fun hHeld => ?_)
  clear hK K
  refine norm_ (a':=?_) ?_ ?_
  rotate_left
  ·show Act.put _ (some 12) _ = _
   simp only [Act.put,setIfInBounds_toArray,set_cons_zero,set_cons_succ,i64_w,i32_w]
   rfl
  refine one_ (i:=2) (N:=some 13) (bm 19 36407) rfl rfl (one_of HT_.out (by kernel_rfl)) (by decide) (fun K hK => ?_)
  refine goes_ Tryz.func13 (by kernel_rfl) rfl #[.slice Ao16 y518.length co16] (by rfl) rfl rfl mA ?_
  with_reducible refine (impl_isLong.calls _ _ y518 t521 _ ?side1 ?side2 A5.out).mono ?_
  (case side1 => repeat (first | exact (Kd.R_reads' HO520.out).2.2 | (with_reducible refine Kd.C_alloc ?_ _) | (with_reducible refine Kd.C_drewN ?_ _) | (with_reducible refine Kd.C_drew ?_)))
  (case side2 => exact (Kd.R_reads' HO520.out).2.1)
  rintro e w17 ⟨rfl,hb⟩
  refine ⟨_,rfl,?_⟩
  have n0_ := Aside0.mk (Kd.R_below (rA HO520.out) hb)
  have n1_ := Aside0.mk (blk_below (g:=gb516) (o:=.cells #[.int .i64 a0_0,.int .i64 a0_1,.int .i64 a0_2,.string a0_3] 29 (0,0)) (kA BK516.out) hb)
  have n2_ := Aside0.mk (blk_below (g:=gb517) (o:=.cells #[.int .i64 0,.int .i64 0,.int .i64 0,.int .i64 0,.int .i64 0,.int .i64 0] 26 (0,0)) (kA BK517.out) hb)
  have n3_ := Aside0.mk (below_step bA hb)
  clear HO520
  clear BK516
  clear BK517
  clear HB
  have HO520 := n0_
  have BK516 := n1_
  have BK517 := n2_
  have HB := n3_
  clear n0_ n1_ n2_ n3_
  (try clear hb)
  (try clear hb2)
  (try clear hk)
  (try clear hi)
  refine hK.out _ _ ⟨(blk_cell BK516.out 0).trans rfl,(blk_cell BK516.out 1).trans rfl,(blk_cell BK516.out 2).trans rfl,(blk_cell BK516.out 3).trans rfl⟩ (fun hHeld => ?_)
  clear hK K
  refine norm_ (a':=?_) ?_ ?_
  rotate_left
  ·show Act.put _ (some 13) _ = _
   simp only [Act.put,setIfInBounds_toArray,set_cons_zero,set_cons_succ,i64_w,i32_w]
   rfl
  refine pV_ 3 14 (bm 19 36415) HT_.out ?_
  refine one_ (i:=6) (N:=some 17) (bm 19 36479) rfl rfl (one_of HT_.out (by kernel_rfl)) (by decide) (fun K hK => ?_)
  refine goes_ Tryz.func14 (by kernel_rfl) rfl #[.agg #[.int .i64 a0_0,.int .i64 a0_1,.int .i64 a0_2,.string a0_3]] (by rfl) rfl rfl mA ?_
  with_reducible refine (impl_entryOK.calls k a0_0 a0_1 a0_2 a0_3 t522 _ ?side1 A6.out).mono ?_
  (case side1 => exact HV.out.below bA)
  rintro e w18 ⟨rfl,hb⟩
  refine ⟨_,rfl,?_⟩
  have n0_ := Aside0.mk (Kd.R_below (rA HO520.out) hb)
  have n1_ := Aside0.mk (blk_below (g:=gb516) (o:=.cells #[.int .i64 a0_0,.int .i64 a0_1,.int .i64 a0_2,.string a0_3] 29 (0,0)) (kA BK516.out) hb)
  have n2_ := Aside0.mk (blk_below (g:=gb517) (o:=.cells #[.int .i64 0,.int .i64 0,.int .i64 0,.int .i64 0,.int .i64 0,.int .i64 0] 26 (0,0)) (kA BK517.out) hb)
  have n3_ := Aside0.mk (below_step bA hb)
  clear HO520
  clear BK516
  clear BK517
  clear HB
  have HO520 := n0_
  have BK516 := n1_
  have BK517 := n2_
  have HB := n3_
  clear n0_ n1_ n2_ n3_
  (try clear hb)
  (try clear hb2)
  (try clear hk)
  (try clear hi)
  refine hK.out _ _ ⟨(blk_cell BK516.out 0).trans rfl,(blk_cell BK516.out 1).trans rfl,(blk_cell BK516.out 2).trans rfl,(blk_cell BK516.out 3).trans rfl⟩ (fun hHeld => ?_)
  clear hK K
  refine norm_ (a':=?_) ?_ ?_
  rotate_left
  ·show Act.put _ (some 17) _ = _
   simp only [Act.put,setIfInBounds_toArray,set_cons_zero,set_cons_succ,i64_w,i32_w]
   rfl
  refine pV_ 7 18 (bm 19 36607) HT_.out ?_
  refine pV_ 8 19 (bm 19 36863) HT_.out ?_
  refine one_ (i:=12) (N:=some 23) (bm 19 40959) rfl rfl (one_of HT_.out (by kernel_rfl)) (by decide) (fun K hK => ?_)
  refine goes_ Tryz.func15 (by kernel_rfl) rfl #[.int .i64 a2,.int .i64 a3] (by rfl) rfl rfl mA ?_
  with_reducible refine (impl_isRange.calls a2 a3 t523 _ A7.out).mono ?_
  rintro e w' ⟨rfl,⟨nd,rfl⟩⟩
  refine ⟨_,rfl,?_⟩
  refine hK.out _ _ ⟨(blk_cell BK516.out 0).trans rfl,(blk_cell BK516.out 1).trans rfl,(blk_cell BK516.out 2).trans rfl,(blk_cell BK516.out 3).trans rfl⟩ (fun hHeld => ?_)
  clear hK K
  refine norm_ (a':=?_) ?_ ?_
  rotate_left
  ·show Act.put _ (some 23) _ = _
   simp only [Act.put,setIfInBounds_toArray,set_cons_zero,set_cons_succ,i64_w,i32_w]
   rfl
  refine pV_ 13 24 (bm 19 49151) HT_.out ?_
  refine pV_ 14 25 (bm 19 65535) HT_.out ?_
  refine one_ (i:=16) (N:=some 27) (bm 19 131071) rfl rfl (one_of HT_.out (by kernel_rfl)) (by decide) (fun K hK => ?_)
  refine Kd.R_lit_step kAny _ 20 ?hg (N:=27) ?hd (xs := ([anyB t521,anyI 2,anyB (!t522),anyI 1,anyB (!t523),anyI 4] : List AnyV)) (inner := [.iface 4 (.bool t521),.iface 3 (.int .i64 2),.iface 4 (.bool (!t522)),.iface 3 (.int .i64 1),.iface 4 (.bool (!t523)),.iface 3 (.int .i64 4)]) (ok := fun _ => True) (okp := fun _ => True) ?hr ?hp (fun _ hk => hk) trivial (Below.refl _ _) (Nat.le_refl _) (by simp) ?_; (case hd => rfl); (case hg => rfl); (case hr => first | (go_simp; done) | (go_simp; rfl)); (case hp => exact (Reps.one (show Kd.M kAny _ _ _ (anyB t521) [.iface 4 (.bool t521)] from rfl) (Reps.one (show Kd.M kAny _ _ _ (anyI 2) [.iface 3 (.int .i64 2)] from rfl) (Reps.one (show Kd.M kAny _ _ _ (anyB (!t522)) [.iface 4 (.bool (!t522))] from rfl) (Reps.one (show Kd.M kAny _ _ _ (anyI 1) [.iface 3 (.int .i64 1)] from rfl) (Reps.one (show Kd.M kAny _ _ _ (anyB (!t523)) [.iface 4 (.bool (!t523))] from rfl) (Reps.one (show Kd.M kAny _ _ _ (anyI 4) [.iface 3 (.int .i64 4)] from rfl) (Reps.none _ _))))))))
  intro v525 w19 ho20 hb hg_ hnew_
  clear hg_ hnew_
  (first | rw [← Ny524.out] at ho20 | (simp only [Int.reduceToNat] at ho20; rw [← Ny524.out] at ho20))
  have n0_ := Aside0.mk (Kd.R_below (rA HO520.out) hb)
  have n1_ := Aside0.mk (Kd.R_lower ho20 (below_size bA))
  have n2_ := Aside0.mk (blk_below (g:=gb516) (o:=.cells #[.int .i64 a0_0,.int .i64 a0_1,.int .i64 a0_2,.string a0_3] 29 (0,0)) (kA BK516.out) hb)
  have n3_ := Aside0.mk (blk_below (g:=gb517) (o:=.cells #[.int .i64 0,.int .i64 0,.int .i64 0,.int .i64 0,.int .i64 0,.int .i64 0] 26 (0,0)) (kA BK517.out) hb)
  have n4_ := Aside0.mk (below_step bA hb)
  clear HO520
  clear BK516
  clear BK517
  clear HB
  have HO520 := n0_
  have HO526 := n1_
  have BK516 := n2_
  have BK517 := n3_
  have HB := n4_
  clear n0_ n1_ n2_ n3_ n4_
  clear hb ho20
  obtain ⟨Ao21,co21,eo21⟩ := Kd.R_slice HO526.out
  (first | subst eo21 | (injection eo21 with f1_ f2_ f3_; have f4_ := f1_.symm; have f5_ := f3_.symm; clear f1_ f2_ f3_; subst f4_; subst f5_))
  refine hK.out _ _ ⟨(blk_cell BK516.out 0).trans rfl,(blk_cell BK516.out 1).trans rfl,(blk_cell BK516.out 2).trans rfl,(blk_cell BK516.out 3).trans rfl⟩ (fun hHeld => ?_)
  clear hK K
  refine norm_ (a':=?_) ?_ ?_
  rotate_left
  ·show Act.put _ (some 27) _ = _
   simp only [Act.put,setIfInBounds_toArray,set_cons_zero,set_cons_succ,i64_w,i32_w]
   rfl
  refine one_ (i:=17) (N:=some 28) (bm 19 262143) rfl rfl (one_of HT_.out (by kernel_rfl)) (by decide) (fun K hK => ?_)
  refine goes_ Tryz.func12 (by kernel_rfl) rfl #[.slice Ao21 y524.length co21] (by rfl) rfl rfl mA ?_
  with_reducible refine (impl_first.calls k _ _ y524 t527 _ ?side1 ?side2 A8.out).mono ?_
  (case side1 => repeat (first | exact (Kd.R_reads' HO526.out).2.2 | (with_reducible refine Kd.C_alloc ?_ _) | (with_reducible refine Kd.C_drewN ?_ _) | (with_reducible refine Kd.C_drew ?_)))
  (case side2 => exact (Kd.R_reads' HO526.out).2.1)
  rintro e w' ⟨rfl,⟨nd,rfl⟩⟩
  refine ⟨_,rfl,?_⟩
  refine hK.out _ _ ⟨(blk_cell BK516.out 0).trans rfl,(blk_cell BK516.out 1).trans rfl,(blk_cell BK516.out 2).trans rfl,(blk_cell BK516.out 3).trans rfl⟩ (fun hHeld => ?_)
  clear hK K
  refine norm_ (a':=?_) ?_ ?_
  rotate_left
  ·show Act.put _ (some 28) _ = _
   simp only [Act.put,setIfInBounds_toArray,set_cons_zero,set_cons_succ,i64_w,i32_w]
   rfl
  refine pV_ 18 10 (bm 19 524287) HT_.out ?_
  refine done_ (done_of HT_.out (by kernel_rfl)) ?_
  have hnb22 := NB516_517.out
  have hnc22 := NB517_516.out
  have hcz23_0 : w19.cell? ⟨gb516,0,none⟩ = some (.int .i64 a0_0) := (blk_cell BK516.out 0).trans rfl
  have hcz23_1 : w19.cell? ⟨gb516,1,none⟩ = some (.int .i64 a0_1) := (blk_cell BK516.out 1).trans rfl
  have hcz23_2 : w19.cell? ⟨gb516,2,none⟩ = some (.int .i64 a0_2) := (blk_cell BK516.out 2).trans rfl
  have hcz23_3 : w19.cell? ⟨gb516,3,none⟩ = some (.string a0_3) := (blk_cell BK516.out 3).trans rfl
  have hfz23_0 := blk_frozen BK516.out 0
  have hfz23_1 := blk_frozen BK516.out 1
  have hfz23_2 := blk_frozen BK516.out 2
  have hfz23_3 := blk_frozen BK516.out 3
  try go_wp2_with (first | ((with_reducible refine gate_callee (f:=16) rfl ?_); refine goesL_ (some 37) rfl rfl Tryz.func16 (by kernel_rfl) rfl #[.agg #[.int .i64 a0_0,.int .i64 a0_1,.int .i64 a0_2,.string a0_3],.string a1,.int .i64 a2,.int .i64 a3] rfl mA ?_; (with_reducible refine (impl_windowOf.calls k a0_0 a0_1 a0_2 a0_3 a1 a2 a3 t528 t529 t530 t531 t532 t533 t534 _ ?side1 A10.out).mono ?_); (case side1 => exact HV.out.below bA); rintro e w24 ⟨rfl,hb⟩; refine ⟨_,rfl,?_⟩; have n0_ := Aside0.mk (Kd.R_below (rA HO520.out) hb); have n1_ := Aside0.mk (Kd.R_below (rA HO526.out) hb); have n2_ := Aside0.mk (blk_below (g:=gb516) (o:=.cells #[.int .i64 a0_0,.int .i64 a0_1,.int .i64 a0_2,.string a0_3] 29 (0,0)) (kA BK516.out) hb); have n3_ := Aside0.mk (blk_below (g:=gb517) (o:=.cells #[.int .i64 0,.int .i64 0,.int .i64 0,.int .i64 0,.int .i64 0,.int .i64 0] 26 (0,0)) (kA BK517.out) hb); have n4_ := Aside0.mk (below_step bA hb); clear HO520; clear HO526; clear BK516; clear BK517; clear HB; have HO520 := n0_; have HO526 := n1_; have BK516 := n2_; have BK517 := n3_; have HB := n4_; clear n0_ n1_ n2_ n3_ n4_; (try clear hb); (try clear hb2); (try clear hk); (try clear hi); have hcz25_0 : w24.cell? ⟨gb517,0,none⟩ = some (.int .i64 0) := (blk_cell BK517.out 0).trans rfl; have hcz25_1 : w24.cell? ⟨gb517,1,none⟩ = some (.int .i64 0) := (blk_cell BK517.out 1).trans rfl; have hcz25_2 : w24.cell? ⟨gb517,2,none⟩ = some (.int .i64 0) := (blk_cell BK517.out 2).trans rfl; have hcz25_3 : w24.cell? ⟨gb517,3,none⟩ = some (.int .i64 0) := (blk_cell BK517.out 3).trans rfl; have hcz25_4 : w24.cell? ⟨gb517,4,none⟩ = some (.int .i64 0) := (blk_cell BK517.out 4).trans rfl; have hcz25_5 : w24.cell? ⟨gb517,5,none⟩ = some (.int .i64 0) := (blk_cell BK517.out 5).trans rfl; have hfz25_0 := blk_frozen BK517.out 0; have hfz25_1 := blk_frozen BK517.out 1; have hfz25_2 := blk_frozen BK517.out 2; have hfz25_3 := blk_frozen BK517.out 3; have hfz25_4 := blk_frozen BK517.out 4; have hfz25_5 := blk_frozen BK517.out 5))
  refine bodyPost_ret (results_ct rfl _ _ gb517 26 #[.int .i64 t528,.int .i64 t529,.int .i64 t530,.int .i64 t531,.int .i64 t532,.int .i64 t533] (0,0) _ rfl (by (with_reducible repeat (first | refine blk_drewN ?_ _ | refine blk_drew ?_ | refine blk_alloc ?_ _)); apply blkp6; (with_reducible repeat (first | refine blk_drewN ?_ _ | refine blk_drew ?_ | refine blk_alloc ?_ _)); exact BK517.out) Tryz.underlying26 rfl (by kernel_rfl)) rfl ?_
  exact ⟨by first | rfl | (simp [errW_none,errW_some] <;> rfl) | (simp [*,errW_none,errW_some] <;> rfl),bA⟩
 ·rw [if_neg c9] at H
  have c9b0 : (t527 == 0) = false := beq_eq_false_iff_ne.mpr c9
  have c9b1 : (t527 != 0) = true := bne_iff_ne.mpr c9
  simp only [Option.some.injEq,Prod.mk.injEq] at H
  obtain ⟨rfl,rfl,rfl,rfl,rfl,rfl,rfl⟩ := H
  go_enter Tryz.func7,Tryz.ntmps7
  try go_wp2_with (first | ((with_reducible refine gate_dst (N:=4) rfl ?_); refine box_event ?hg (N:=4) ?hd (cs := #[.int .i64 a0_0,.int .i64 a0_1,.int .i64 a0_2,.string a0_3]) (t:=29) ?hr ?_; (case hd => rfl); (case hg => rfl); (case hr => first | (go_simp; done) | (go_simp; rfl)); intro gb516 hg w26 hbox hb; have n0_ := Aside0.mk (below_step bA hb); have n1_ := Aside0.mk (hbox); have n2_ := Aside0.mk ((gw hg : w.heap.size ≤ gb516)); have n3_ := Aside0.mk ((gw hg : w.heap.size ≤ gb516)); clear HB; have HB := n0_; have BK516 := n1_; have GW516 := n2_; have GE516 := n3_; clear n0_ n1_ n2_ n3_; clear hb hbox hg) | ((with_reducible refine gate_dst (N:=8) rfl ?_); refine box_event ?hg (N:=8) ?hd (cs := #[.int .i64 0,.int .i64 0,.int .i64 0,.int .i64 0,.int .i64 0,.int .i64 0]) (t:=26) ?hr ?_; (case hd => rfl); (case hg => rfl); (case hr => first | (go_simp; done) | (go_simp; rfl)); intro gb517 hg w27 hbox hb; have n0_ := Aside0.mk (blk_below (g:=gb516) (o:=.cells #[.int .i64 a0_0,.int .i64 a0_1,.int .i64 a0_2,.string a0_3] 29 (0,0)) (kA BK516.out) hb); have n1_ := Aside0.mk (below_step bA hb); have n2_ := Aside0.mk (hbox); have n3_ := Aside0.mk ((gw hg : w.heap.size ≤ gb517)); have n4_ := Aside0.mk ((gw hg : w.heap.size ≤ gb517)); have n5_ := Aside0.mk ((by rw [hg]; exact Nat.ne_of_lt (blk_lt (g:=gb516) (o:=.cells #[.int .i64 a0_0,.int .i64 a0_1,.int .i64 a0_2,.string a0_3] 29 (0,0)) (kA BK516.out)) : gb516 ≠ gb517)); have n6_ := Aside0.mk ((by rw [hg]; exact Nat.ne_of_gt (blk_lt (g:=gb516) (o:=.cells #[.int .i64 a0_0,.int .i64 a0_1,.int .i64 a0_2,.string a0_3] 29 (0,0)) (kA BK516.out)) : gb517 ≠ gb516)); clear BK516; clear HB; have BK516 := n0_; have HB := n1_; have BK517 := n2_; have GW517 := n3_; have GE517 := n4_; have NB516_517 := n5_; have NB517_516 := n6_; clear n0_ n1_ n2_ n3_ n4_ n5_ n6_; clear hb hbox hg))
  have n0_ := Aside0.mk (blk_drew BK516.out)
  have n1_ := Aside0.mk (blk_drew BK517.out)
  have n2_ := Aside0.mk (below_drew1 HB.out)
  clear BK516
  clear BK517
  clear HB
  have BK516 := n0_
  have BK517 := n1_
  have HB := n2_
  clear n0_ n1_ n2_
  refine start_ (n:=19) (S:=fun w' => w'.cell? ⟨gb516,0,none⟩ = some (.int .i64 a0_0) ∧ w'.cell? ⟨gb516,1,none⟩ = some (.int .i64 a0_1) ∧ w'.cell? ⟨gb516,2,none⟩ = some (.int .i64 a0_2) ∧ w'.cell? ⟨gb516,3,none⟩ = some (.string a0_3)) (ds := []) (bm 19 0) (by kernel_rfl) rfl rfl ⟨(blk_cell BK516.out 0).trans rfl,(blk_cell BK516.out 1).trans rfl,(blk_cell BK516.out 2).trans rfl,(blk_cell BK516.out 3).trans rfl⟩ (fun hHeld => ?_); refine with_tabW impl_WindowOf.tab1 impl_WindowOf.bits1 (fun HT_ HW_ => ?_)
  generalize w27.drew = w28 at BK516 BK517 HB hHeld ⊢
  refine pV_ 0 11 (bm 19 1) HT_.out ?_
  refine pV_ 4 15 (bm 19 17) HT_.out ?_
  refine pV_ 9 20 (bm 19 529) HT_.out ?_
  refine pV_ 10 21 (bm 19 1553) HT_.out ?_
  refine pV_ 11 22 (bm 19 3601) HT_.out ?_
  refine pV_ 15 26 (bm 19 36369) HT_.out ?_
  refine take_ (i:=5) (N:=some 16) (v:=?_) (a':=?_) (bm 19 36401) rfl rfl (take_ofW HT_.out HW_.out (by kernel_rfl)) (fun _ _ _ h => h) (Or.inl ⟨by rfl,?_⟩) hHeld ?_ ?_
  rotate_left
  ·rintro w' ⟨s0,s1,s2,s3⟩
   go_simp
   with_reducible rfl
  rotate_left
  ·simp only [Act.put,setIfInBounds_toArray,set_cons_zero,set_cons_succ,i64_w,i32_w]
   rfl
  refine one_ (i:=1) (N:=some 12) (bm 19 36403) rfl rfl (one_of HT_.out (by kernel_rfl)) (by decide) (fun K hK => ?_)
  refine Kd.R_lit_step Kd.string _ 9 ?hg (N:=12) ?hd (xs := ([a1] : List ByteArray)) (inner := [.string a1]) (ok := fun _ => True) (okp := fun _ => True) ?hr ?hp (fun _ hk => hk) trivial (Below.refl _ _) (Nat.le_refl _) (by simp) ?_; (case hd => rfl); (case hg => rfl); (case hr => first | (go_simp; done) | (go_simp; rfl)); (case hp => exact (Reps.one (show Kd.M Kd.string _ _ _ a1 [.string a1] from rfl) (Reps.none _ _)))
  intro v519 w29 ho30 hb hg_ hnew_
  clear hg_ hnew_
  (first | rw [← Ny518.out] at ho30 | (simp only [Int.reduceToNat] at ho30; rw [← Ny518.out] at ho30))
  have n0_ := Aside0.mk (Kd.R_lower ho30 (below_size bA))
  have n1_ := Aside0.mk (blk_below (g:=gb516) (o:=.cells #[.int .i64 a0_0,.int .i64 a0_1,.int .i64 a0_2,.string a0_3] 29 (0,0)) (kA BK516.out) hb)
  have n2_ := Aside0.mk (blk_below (g:=gb517) (o:=.cells #[.int .i64 0,.int .i64 0,.int .i64 0,.int .i64 0,.int .i64 0,.int .i64 0] 26 (0,0)) (kA BK517.out) hb)
  have n3_ := Aside0.mk (below_step bA hb)
  clear BK516
  clear BK517
  clear HB
  have HO520 := n0_
  have BK516 := n1_
  have BK517 := n2_
  have HB := n3_
  clear n0_ n1_ n2_ n3_
  clear hb ho30
  obtain ⟨Ao31,co31,eo31⟩ := Kd.R_slice HO520.out
  (first | subst eo31 | (injection eo31 with f1_ f2_ f3_; have f4_ := f1_.symm; have f5_ := f3_.symm; clear f1_ f2_ f3_; subst f4_; subst f5_))
  refine hK.out _ _ ⟨(blk_cell BK516.out 0).trans rfl,(blk_cell BK516.out 1).trans rfl,(blk_cell BK516.out 2).trans rfl,(blk_cell BK516.out 3).trans rfl⟩ (fun hHeld => ?_)
  clear hK K
  refine norm_ (a':=?_) ?_ ?_
  rotate_left
  ·show Act.put _ (some 12) _ = _
   simp only [Act.put,setIfInBounds_toArray,set_cons_zero,set_cons_succ,i64_w,i32_w]
   rfl
  refine one_ (i:=2) (N:=some 13) (bm 19 36407) rfl rfl (one_of HT_.out (by kernel_rfl)) (by decide) (fun K hK => ?_)
  refine goes_ Tryz.func13 (by kernel_rfl) rfl #[.slice Ao31 y518.length co31] (by rfl) rfl rfl mA ?_
  with_reducible refine (impl_isLong.calls _ _ y518 t521 _ ?side1 ?side2 A5.out).mono ?_
  (case side1 => repeat (first | exact (Kd.R_reads' HO520.out).2.2 | (with_reducible refine Kd.C_alloc ?_ _) | (with_reducible refine Kd.C_drewN ?_ _) | (with_reducible refine Kd.C_drew ?_)))
  (case side2 => exact (Kd.R_reads' HO520.out).2.1)
  rintro e w32 ⟨rfl,hb⟩
  refine ⟨_,rfl,?_⟩
  have n0_ := Aside0.mk (Kd.R_below (rA HO520.out) hb)
  have n1_ := Aside0.mk (blk_below (g:=gb516) (o:=.cells #[.int .i64 a0_0,.int .i64 a0_1,.int .i64 a0_2,.string a0_3] 29 (0,0)) (kA BK516.out) hb)
  have n2_ := Aside0.mk (blk_below (g:=gb517) (o:=.cells #[.int .i64 0,.int .i64 0,.int .i64 0,.int .i64 0,.int .i64 0,.int .i64 0] 26 (0,0)) (kA BK517.out) hb)
  have n3_ := Aside0.mk (below_step bA hb)
  clear HO520
  clear BK516
  clear BK517
  clear HB
  have HO520 := n0_
  have BK516 := n1_
  have BK517 := n2_
  have HB := n3_
  clear n0_ n1_ n2_ n3_
  (try clear hb)
  (try clear hb2)
  (try clear hk)
  (try clear hi)
  refine hK.out _ _ ⟨(blk_cell BK516.out 0).trans rfl,(blk_cell BK516.out 1).trans rfl,(blk_cell BK516.out 2).trans rfl,(blk_cell BK516.out 3).trans rfl⟩ (fun hHeld => ?_)
  clear hK K
  refine norm_ (a':=?_) ?_ ?_
  rotate_left
  ·show Act.put _ (some 13) _ = _
   simp only [Act.put,setIfInBounds_toArray,set_cons_zero,set_cons_succ,i64_w,i32_w]
   rfl
  refine pV_ 3 14 (bm 19 36415) HT_.out ?_
  refine one_ (i:=6) (N:=some 17) (bm 19 36479) rfl rfl (one_of HT_.out (by kernel_rfl)) (by decide) (fun K hK => ?_)
  refine goes_ Tryz.func14 (by kernel_rfl) rfl #[.agg #[.int .i64 a0_0,.int .i64 a0_1,.int .i64 a0_2,.string a0_3]] (by rfl) rfl rfl mA ?_
  with_reducible refine (impl_entryOK.calls k a0_0 a0_1 a0_2 a0_3 t522 _ ?side1 A6.out).mono ?_
  (case side1 => exact HV.out.below bA)
  rintro e w33 ⟨rfl,hb⟩
  refine ⟨_,rfl,?_⟩
  have n0_ := Aside0.mk (Kd.R_below (rA HO520.out) hb)
  have n1_ := Aside0.mk (blk_below (g:=gb516) (o:=.cells #[.int .i64 a0_0,.int .i64 a0_1,.int .i64 a0_2,.string a0_3] 29 (0,0)) (kA BK516.out) hb)
  have n2_ := Aside0.mk (blk_below (g:=gb517) (o:=.cells #[.int .i64 0,.int .i64 0,.int .i64 0,.int .i64 0,.int .i64 0,.int .i64 0] 26 (0,0)) (kA BK517.out) hb)
  have n3_ := Aside0.mk (below_step bA hb)
  clear HO520
  clear BK516
  clear BK517
  clear HB
  have HO520 := n0_
  have BK516 := n1_
  have BK517 := n2_
  have HB := n3_
  clear n0_ n1_ n2_ n3_
  (try clear hb)
  (try clear hb2)
  (try clear hk)
  (try clear hi)
  refine hK.out _ _ ⟨(blk_cell BK516.out 0).trans rfl,(blk_cell BK516.out 1).trans rfl,(blk_cell BK516.out 2).trans rfl,(blk_cell BK516.out 3).trans rfl⟩ (fun hHeld => ?_)
  clear hK K
  refine norm_ (a':=?_) ?_ ?_
  rotate_left
  ·show Act.put _ (some 17) _ = _
   simp only [Act.put,setIfInBounds_toArray,set_cons_zero,set_cons_succ,i64_w,i32_w]
   rfl
  refine pV_ 7 18 (bm 19 36607) HT_.out ?_
  refine pV_ 8 19 (bm 19 36863) HT_.out ?_
  refine one_ (i:=12) (N:=some 23) (bm 19 40959) rfl rfl (one_of HT_.out (by kernel_rfl)) (by decide) (fun K hK => ?_)
  refine goes_ Tryz.func15 (by kernel_rfl) rfl #[.int .i64 a2,.int .i64 a3] (by rfl) rfl rfl mA ?_
  with_reducible refine (impl_isRange.calls a2 a3 t523 _ A7.out).mono ?_
  rintro e w' ⟨rfl,⟨nd,rfl⟩⟩
  refine ⟨_,rfl,?_⟩
  refine hK.out _ _ ⟨(blk_cell BK516.out 0).trans rfl,(blk_cell BK516.out 1).trans rfl,(blk_cell BK516.out 2).trans rfl,(blk_cell BK516.out 3).trans rfl⟩ (fun hHeld => ?_)
  clear hK K
  refine norm_ (a':=?_) ?_ ?_
  rotate_left
  ·show Act.put _ (some 23) _ = _
   simp only [Act.put,setIfInBounds_toArray,set_cons_zero,set_cons_succ,i64_w,i32_w]
   rfl
  refine pV_ 13 24 (bm 19 49151) HT_.out ?_
  refine pV_ 14 25 (bm 19 65535) HT_.out ?_
  refine one_ (i:=16) (N:=some 27) (bm 19 131071) rfl rfl (one_of HT_.out (by kernel_rfl)) (by decide) (fun K hK => ?_)
  refine Kd.R_lit_step kAny _ 20 ?hg (N:=27) ?hd (xs := ([anyB t521,anyI 2,anyB (!t522),anyI 1,anyB (!t523),anyI 4] : List AnyV)) (inner := [.iface 4 (.bool t521),.iface 3 (.int .i64 2),.iface 4 (.bool (!t522)),.iface 3 (.int .i64 1),.iface 4 (.bool (!t523)),.iface 3 (.int .i64 4)]) (ok := fun _ => True) (okp := fun _ => True) ?hr ?hp (fun _ hk => hk) trivial (Below.refl _ _) (Nat.le_refl _) (by simp) ?_; (case hd => rfl); (case hg => rfl); (case hr => first | (go_simp; done) | (go_simp; rfl)); (case hp => exact (Reps.one (show Kd.M kAny _ _ _ (anyB t521) [.iface 4 (.bool t521)] from rfl) (Reps.one (show Kd.M kAny _ _ _ (anyI 2) [.iface 3 (.int .i64 2)] from rfl) (Reps.one (show Kd.M kAny _ _ _ (anyB (!t522)) [.iface 4 (.bool (!t522))] from rfl) (Reps.one (show Kd.M kAny _ _ _ (anyI 1) [.iface 3 (.int .i64 1)] from rfl) (Reps.one (show Kd.M kAny _ _ _ (anyB (!t523)) [.iface 4 (.bool (!t523))] from rfl) (Reps.one (show Kd.M kAny _ _ _ (anyI 4) [.iface 3 (.int .i64 4)] from rfl) (Reps.none _ _))))))))
  intro v525 w34 ho35 hb hg_ hnew_
  clear hg_ hnew_
  (first | rw [← Ny524.out] at ho35 | (simp only [Int.reduceToNat] at ho35; rw [← Ny524.out] at ho35))
  have n0_ := Aside0.mk (Kd.R_below (rA HO520.out) hb)
  have n1_ := Aside0.mk (Kd.R_lower ho35 (below_size bA))
  have n2_ := Aside0.mk (blk_below (g:=gb516) (o:=.cells #[.int .i64 a0_0,.int .i64 a0_1,.int .i64 a0_2,.string a0_3] 29 (0,0)) (kA BK516.out) hb)
  have n3_ := Aside0.mk (blk_below (g:=gb517) (o:=.cells #[.int .i64 0,.int .i64 0,.int .i64 0,.int .i64 0,.int .i64 0,.int .i64 0] 26 (0,0)) (kA BK517.out) hb)
  have n4_ := Aside0.mk (below_step bA hb)
  clear HO520
  clear BK516
  clear BK517
  clear HB
  have HO520 := n0_
  have HO526 := n1_
  have BK516 := n2_
  have BK517 := n3_
  have HB := n4_
  clear n0_ n1_ n2_ n3_ n4_
  clear hb ho35
  obtain ⟨Ao36,co36,eo36⟩ := Kd.R_slice HO526.out
  (first | subst eo36 | (injection eo36 with f1_ f2_ f3_; have f4_ := f1_.symm; have f5_ := f3_.symm; clear f1_ f2_ f3_; subst f4_; subst f5_))
  refine hK.out _ _ ⟨(blk_cell BK516.out 0).trans rfl,(blk_cell BK516.out 1).trans rfl,(blk_cell BK516.out 2).trans rfl,(blk_cell BK516.out 3).trans rfl⟩ (fun hHeld => ?_)
  clear hK K
  refine norm_ (a':=?_) ?_ ?_
  rotate_left
  ·show Act.put _ (some 27) _ = _
   simp only [Act.put,setIfInBounds_toArray,set_cons_zero,set_cons_succ,i64_w,i32_w]
   rfl
  refine one_ (i:=17) (N:=some 28) (bm 19 262143) rfl rfl (one_of HT_.out (by kernel_rfl)) (by decide) (fun K hK => ?_)
  refine goes_ Tryz.func12 (by kernel_rfl) rfl #[.slice Ao36 y524.length co36] (by rfl) rfl rfl mA ?_
  with_reducible refine (impl_first.calls k _ _ y524 t527 _ ?side1 ?side2 A8.out).mono ?_
  (case side1 => repeat (first | exact (Kd.R_reads' HO526.out).2.2 | (with_reducible refine Kd.C_alloc ?_ _) | (with_reducible refine Kd.C_drewN ?_ _) | (with_reducible refine Kd.C_drew ?_)))
  (case side2 => exact (Kd.R_reads' HO526.out).2.1)
  rintro e w' ⟨rfl,⟨nd,rfl⟩⟩
  refine ⟨_,rfl,?_⟩
  refine hK.out _ _ ⟨(blk_cell BK516.out 0).trans rfl,(blk_cell BK516.out 1).trans rfl,(blk_cell BK516.out 2).trans rfl,(blk_cell BK516.out 3).trans rfl⟩ (fun hHeld => ?_)
  clear hK K
  refine norm_ (a':=?_) ?_ ?_
  rotate_left
  ·show Act.put _ (some 28) _ = _
   simp only [Act.put,setIfInBounds_toArray,set_cons_zero,set_cons_succ,i64_w,i32_w]
   rfl
  refine pV_ 18 10 (bm 19 524287) HT_.out ?_
  refine done_ (done_of HT_.out (by kernel_rfl)) ?_
  have hnb37 := NB517_516.out
  have hnc37 := NB516_517.out
  have hcz38_0 : w34.cell? ⟨gb517,0,none⟩ = some (.int .i64 0) := (blk_cell BK517.out 0).trans rfl
  have hcz38_1 : w34.cell? ⟨gb517,1,none⟩ = some (.int .i64 0) := (blk_cell BK517.out 1).trans rfl
  have hcz38_2 : w34.cell? ⟨gb517,2,none⟩ = some (.int .i64 0) := (blk_cell BK517.out 2).trans rfl
  have hcz38_3 : w34.cell? ⟨gb517,3,none⟩ = some (.int .i64 0) := (blk_cell BK517.out 3).trans rfl
  have hcz38_4 : w34.cell? ⟨gb517,4,none⟩ = some (.int .i64 0) := (blk_cell BK517.out 4).trans rfl
  have hcz38_5 : w34.cell? ⟨gb517,5,none⟩ = some (.int .i64 0) := (blk_cell BK517.out 5).trans rfl
  have hfz38_0 := blk_frozen BK517.out 0
  have hfz38_1 := blk_frozen BK517.out 1
  have hfz38_2 := blk_frozen BK517.out 2
  have hfz38_3 := blk_frozen BK517.out 3
  have hfz38_4 := blk_frozen BK517.out 4
  have hfz38_5 := blk_frozen BK517.out 5
  try go_wp2
  refine bodyPost_ret (results_ct rfl _ _ gb517 26 #[.int .i64 0,.int .i64 0,.int .i64 0,.int .i64 0,.int .i64 0,.int .i64 0] (0,0) _ rfl (by (with_reducible repeat (first | refine blk_drewN ?_ _ | refine blk_drew ?_ | refine blk_alloc ?_ _)); apply blkp6; (with_reducible repeat (first | refine blk_drewN ?_ _ | refine blk_drew ?_ | refine blk_alloc ?_ _)); exact BK517.out) Tryz.underlying26 rfl (by kernel_rfl)) rfl ?_
  exact ⟨by first | rfl | (simp [errW_none,errW_some] <;> rfl) | (simp [*,errW_none,errW_some] <;> rfl),bA⟩

/-! ### laws_eqAgg: function 8 -/
def laws_eqAgg.f (a0_0 : Int) (a0_1 : Int) (a0_2 : Int) (a0_3 : Int) (a0_4 : Int) (a0_5 : Int) (a1_0 : Int) (a1_1 : Int) (a1_2 : Int) (a1_3 : Int) (a1_4 : Int) (a1_5 : Int) : Option (Bool) := if a0_0 = a1_0 then (if a0_1 = a1_1 then (if a0_2 = a1_2 then (if a0_3 = a1_3 then (if a0_4 = a1_4 then (if a0_5 = a1_5 then (some true) else (some false)) else (some false)) else (some false)) else (some false)) else (some false)) else (some false)
set_option maxHeartbeats 8000000 in
set_option maxRecDepth 100000 in
theorem laws_eqAgg.calls (a0_0 : Int) (a0_1 : Int) (a0_2 : Int) (a0_3 : Int) (a0_4 : Int) (a0_5 : Int) (a1_0 : Int) (a1_1 : Int) (a1_2 : Int) (a1_3 : Int) (a1_4 : Int) (a1_5 : Int) (r : Bool) (w : World) (h : laws_eqAgg.f a0_0 a0_1 a0_2 a0_3 a0_4 a0_5 a1_0 a1_1 a1_2 a1_3 a1_4 a1_5 = some r) :
  Calls Tryz.prog 8 #[.agg #[.int .i64 a0_0,.int .i64 a0_1,.int .i64 a0_2,.int .i64 a0_3,.int .i64 a0_4,.int .i64 a0_5],.agg #[.int .i64 a1_0,.int .i64 a1_1,.int .i64 a1_2,.int .i64 a1_3,.int .i64 a1_4,.int .i64 a1_5]] w fun e w' => e = .returned (.bool r) ∧ Below w.heap.size w w' := by
 have hu26 := Tryz.underlying26
 have HB := Aside0.mk (Below.refl w.heap.size w)
 have H : (if a0_0 = a1_0 then (if a0_1 = a1_1 then (if a0_2 = a1_2 then (if a0_3 = a1_3 then (if a0_4 = a1_4 then (if a0_5 = a1_5 then (some true) else (some false)) else (some false)) else (some false)) else (some false)) else (some false)) else (some false)) = some r := h
 clear h
 by_cases c3 : a0_0 = a1_0
 ·rw [if_pos c3] at H
  have c3b0 : (a0_0 == a1_0) = true := beq_iff_eq.mpr c3
  have c3b1 : (a0_0 != a1_0) = false := bne_eq_false_iff_eq.mpr c3
  clear c3
  by_cases c4 : a0_1 = a1_1
  ·rw [if_pos c4] at H
   have c4b0 : (a0_1 == a1_1) = true := beq_iff_eq.mpr c4
   have c4b1 : (a0_1 != a1_1) = false := bne_eq_false_iff_eq.mpr c4
   clear c4
   by_cases c5 : a0_2 = a1_2
   ·rw [if_pos c5] at H
    have c5b0 : (a0_2 == a1_2) = true := beq_iff_eq.mpr c5
    have c5b1 : (a0_2 != a1_2) = false := bne_eq_false_iff_eq.mpr c5
    clear c5
    by_cases c6 : a0_3 = a1_3
    ·rw [if_pos c6] at H
     have c6b0 : (a0_3 == a1_3) = true := beq_iff_eq.mpr c6
     have c6b1 : (a0_3 != a1_3) = false := bne_eq_false_iff_eq.mpr c6
     clear c6
     by_cases c7 : a0_4 = a1_4
     ·rw [if_pos c7] at H
      have c7b0 : (a0_4 == a1_4) = true := beq_iff_eq.mpr c7
      have c7b1 : (a0_4 != a1_4) = false := bne_eq_false_iff_eq.mpr c7
      clear c7
      by_cases c8 : a0_5 = a1_5
      ·rw [if_pos c8] at H
       have c8b0 : (a0_5 == a1_5) = true := beq_iff_eq.mpr c8
       have c8b1 : (a0_5 != a1_5) = false := bne_eq_false_iff_eq.mpr c8
       clear c8
       obtain rfl := Option.some.inj H
       go_enter Tryz.func8,Tryz.ntmps8
       go_wp2
       go_ret
       exact ⟨by first | rfl | (simp [errW_none,errW_some] <;> rfl) | (simp [*,errW_none,errW_some] <;> rfl),bA⟩
      ·rw [if_neg c8] at H
       have c8b0 : (a0_5 == a1_5) = false := beq_eq_false_iff_ne.mpr c8
       have c8b1 : (a0_5 != a1_5) = true := bne_iff_ne.mpr c8
       obtain rfl := Option.some.inj H
       go_enter Tryz.func8,Tryz.ntmps8
       go_wp2
       go_ret
       exact ⟨by first | rfl | (simp [errW_none,errW_some] <;> rfl) | (simp [*,errW_none,errW_some] <;> rfl),bA⟩
     ·rw [if_neg c7] at H
      have c7b0 : (a0_4 == a1_4) = false := beq_eq_false_iff_ne.mpr c7
      have c7b1 : (a0_4 != a1_4) = true := bne_iff_ne.mpr c7
      obtain rfl := Option.some.inj H
      go_enter Tryz.func8,Tryz.ntmps8
      go_wp2
      go_ret
      exact ⟨by first | rfl | (simp [errW_none,errW_some] <;> rfl) | (simp [*,errW_none,errW_some] <;> rfl),bA⟩
    ·rw [if_neg c6] at H
     have c6b0 : (a0_3 == a1_3) = false := beq_eq_false_iff_ne.mpr c6
     have c6b1 : (a0_3 != a1_3) = true := bne_iff_ne.mpr c6
     obtain rfl := Option.some.inj H
     go_enter Tryz.func8,Tryz.ntmps8
     go_wp2
     go_ret
     exact ⟨by first | rfl | (simp [errW_none,errW_some] <;> rfl) | (simp [*,errW_none,errW_some] <;> rfl),bA⟩
   ·rw [if_neg c5] at H
    have c5b0 : (a0_2 == a1_2) = false := beq_eq_false_iff_ne.mpr c5
    have c5b1 : (a0_2 != a1_2) = true := bne_iff_ne.mpr c5
    obtain rfl := Option.some.inj H
    go_enter Tryz.func8,Tryz.ntmps8
    go_wp2
    go_ret
    exact ⟨by first | rfl | (simp [errW_none,errW_some] <;> rfl) | (simp [*,errW_none,errW_some] <;> rfl),bA⟩
  ·rw [if_neg c4] at H
   have c4b0 : (a0_1 == a1_1) = false := beq_eq_false_iff_ne.mpr c4
   have c4b1 : (a0_1 != a1_1) = true := bne_iff_ne.mpr c4
   obtain rfl := Option.some.inj H
   go_enter Tryz.func8,Tryz.ntmps8
   go_wp2
   go_ret
   exact ⟨by first | rfl | (simp [errW_none,errW_some] <;> rfl) | (simp [*,errW_none,errW_some] <;> rfl),bA⟩
 ·rw [if_neg c3] at H
  have c3b0 : (a0_0 == a1_0) = false := beq_eq_false_iff_ne.mpr c3
  have c3b1 : (a0_0 != a1_0) = true := bne_iff_ne.mpr c3
  obtain rfl := Option.some.inj H
  go_enter Tryz.func8,Tryz.ntmps8
  go_wp2
  go_ret
  exact ⟨by first | rfl | (simp [errW_none,errW_some] <;> rfl) | (simp [*,errW_none,errW_some] <;> rfl),bA⟩

/-! ### laws_FnExactWindowOf: function 3 -/
def laws_FnExactWindowOf.f (k : Nat) (a0_0 : Int) (a0_1 : Int) (a0_2 : Int) (a0_3 : ByteArray) (a1 : ByteArray) (a2 : Int) (a3 : Int) : Option (Bool) := if (a1.size : Int) > 1048576 then (some true) else ((laws_szEntry.f a0_0 a0_1 a0_2 a0_3 1048576).bind fun t538 => (if t538 < 0 then (some true) else ((laws_toEntry.f a0_0 a0_1 a0_2 a0_3).bind fun bt539 => ((spec_WindowOf.f k bt539.1 bt539.2.1 bt539.2.2.1 bt539.2.2.2 a1 a2 a3).bind fun bt543 => ((laws_toEntry.f a0_0 a0_1 a0_2 a0_3).bind fun bt551 => ((impl_WindowOf.f k bt551.1 bt551.2.1 bt551.2.2.1 bt551.2.2.2 a1 a2 a3).bind fun bt555 => ((laws_eqAgg.f bt555.1 bt555.2.1 bt555.2.2.1 bt555.2.2.2.1 bt555.2.2.2.2.1 bt555.2.2.2.2.2.1 bt543.1 bt543.2.1 bt543.2.2.1 bt543.2.2.2.1 bt543.2.2.2.2.1 bt543.2.2.2.2.2.1).bind fun t563 => (if t563 = true then (if bt555.2.2.2.2.2.2 = bt543.2.2.2.2.2.2 then (some true) else (none)) else (none)))))))))
theorem laws_FnExactWindowOf.mono : ∀ a0 a1 a2 a3 a4 a5 a6 k,LeO (laws_FnExactWindowOf.f k a0 a1 a2 a3 a4 a5 a6) (laws_FnExactWindowOf.f (k + 1) a0 a1 a2 a3 a4 a5 a6) := by
 intro a0 a1 a2 a3 a4 a5 a6 k
 unfold laws_FnExactWindowOf.f
 repeat' first
   | (with_reducible exact impl_WindowOf.mono _ _ _ _ _ _ _ _)
   | (with_reducible exact spec_WindowOf.mono _ _ _ _ _ _ _ _)
   | (with_reducible exact LeO.refl _)
   | (with_reducible exact LeO.none _)
   | (with_reducible refine LeO.ite ?_ ?_)
   | (with_reducible refine LeO.bind ?_ (fun _ => ?_))
   | exact impl_WindowOf.mono _ _ _ _ _ _ _ _
   | exact spec_WindowOf.mono _ _ _ _ _ _ _ _
   | exact LeO.none _
   | refine LeO.ite ?_ ?_
   | refine LeO.bind ?_ (fun _ => ?_)
set_option maxHeartbeats 8000000 in
set_option maxRecDepth 100000 in
theorem laws_FnExactWindowOf.calls (k : Nat) (a0_0 : Int) (a0_1 : Int) (a0_2 : Int) (a0_3 : ByteArray) (a1 : ByteArray) (a2 : Int) (a3 : Int) (r : Bool) (w : World) (hV : Vars w) (h : laws_FnExactWindowOf.f k a0_0 a0_1 a0_2 a0_3 a1 a2 a3 = some r) :
  Calls Tryz.prog 3 #[.agg #[.int .i64 a0_0,.int .i64 a0_1,.int .i64 a0_2,.string a0_3],.string a1,.int .i64 a2,.int .i64 a3] w fun e w' => e = .returned (.bool r) ∧ Below w.heap.size w w' := by
 have hu23 := Tryz.underlying23
 have hu26 := Tryz.underlying26
 have HV := Aside0.mk hV
 clear hV
 have HB := Aside0.mk (Below.refl w.heap.size w)
 have H : (if (a1.size : Int) > 1048576 then (some true) else ((laws_szEntry.f a0_0 a0_1 a0_2 a0_3 1048576).bind fun t538 => (if t538 < 0 then (some true) else ((laws_toEntry.f a0_0 a0_1 a0_2 a0_3).bind fun bt539 => ((spec_WindowOf.f k bt539.1 bt539.2.1 bt539.2.2.1 bt539.2.2.2 a1 a2 a3).bind fun bt543 => ((laws_toEntry.f a0_0 a0_1 a0_2 a0_3).bind fun bt551 => ((impl_WindowOf.f k bt551.1 bt551.2.1 bt551.2.2.1 bt551.2.2.2 a1 a2 a3).bind fun bt555 => ((laws_eqAgg.f bt555.1 bt555.2.1 bt555.2.2.1 bt555.2.2.2.1 bt555.2.2.2.2.1 bt555.2.2.2.2.2.1 bt543.1 bt543.2.1 bt543.2.2.1 bt543.2.2.2.1 bt543.2.2.2.2.1 bt543.2.2.2.2.2.1).bind fun t563 => (if t563 = true then (if bt555.2.2.2.2.2.2 = bt543.2.2.2.2.2.2 then (some true) else (none)) else (none)))))))))) = some r := h
 clear h
 by_cases c5 : (a1.size : Int) > 1048576
 ·rw [if_pos c5] at H
  have c5b0 : decide (1048576 < (a1.size : Int)) = true := decide_eq_true c5
  have c5b1 : decide (1048576 < a1.size) = true := decide_eq_true (by omega)
  clear c5
  obtain rfl := Option.some.inj H
  go_enter Tryz.func3,Tryz.ntmps3
  go_wp2_with (first | ((with_reducible refine gate_dst (N:=4) rfl ?_); refine box_event ?hg (N:=4) ?hd (cs := #[.int .i64 a0_0,.int .i64 a0_1,.int .i64 a0_2,.string a0_3]) (t:=23) ?hr ?_; (case hd => rfl); (case hg => rfl); (case hr => first | (go_simp; done) | (go_simp; rfl)); intro gb537 hg w6 hbox hb; have n0_ := Aside0.mk (below_step bA hb); have n1_ := Aside0.mk (hbox); have n2_ := Aside0.mk ((gw hg : w.heap.size ≤ gb537)); have n3_ := Aside0.mk ((gw hg : w.heap.size ≤ gb537)); clear HB; have HB := n0_; have BK537 := n1_; have GW537 := n2_; have GE537 := n3_; clear n0_ n1_ n2_ n3_; clear hb hbox hg))
  go_ret
  exact ⟨by first | rfl | (simp [errW_none,errW_some] <;> rfl) | (simp [*,errW_none,errW_some] <;> rfl),bA⟩
 ·rw [if_neg c5] at H
  have c5b0 : decide (1048576 < (a1.size : Int)) = false := decide_eq_false c5
  have c5b1 : decide (1048576 < a1.size) = false := decide_eq_false (by omega)
  clear c5
  replace H := Option.bind_eq_some_iff.mp H
  obtain ⟨t538,A70,H⟩ := H
  try dsimp only at H
  have A7 := Aside0.mk A70
  clear A70
  by_cases c8 : t538 < 0
  ·rw [if_pos c8] at H
   have c8b0 : decide (t538 < 0) = true := decide_eq_true c8
   clear c8
   obtain rfl := Option.some.inj H
   go_enter Tryz.func3,Tryz.ntmps3
   go_wp2_with (first | ((with_reducible refine gate_dst (N:=4) rfl ?_); refine box_event ?hg (N:=4) ?hd (cs := #[.int .i64 a0_0,.int .i64 a0_1,.int .i64 a0_2,.string a0_3]) (t:=23) ?hr ?_; (case hd => rfl); (case hg => rfl); (case hr => first | (go_simp; done) | (go_simp; rfl)); intro gb537 hg w9 hbox hb; have n0_ := Aside0.mk (below_step bA hb); have n1_ := Aside0.mk (hbox); have n2_ := Aside0.mk ((gw hg : w.heap.size ≤ gb537)); have n3_ := Aside0.mk ((gw hg : w.heap.size ≤ gb537)); clear HB; have HB := n0_; have BK537 := n1_; have GW537 := n2_; have GE537 := n3_; clear n0_ n1_ n2_ n3_; clear hb hbox hg; have hcz10_0 : w9.cell? ⟨gb537,0,none⟩ = some (.int .i64 a0_0) := (blk_cell BK537.out 0).trans rfl; have hcz10_1 : w9.cell? ⟨gb537,1,none⟩ = some (.int .i64 a0_1) := (blk_cell BK537.out 1).trans rfl; have hcz10_2 : w9.cell? ⟨gb537,2,none⟩ = some (.int .i64 a0_2) := (blk_cell BK537.out 2).trans rfl; have hcz10_3 : w9.cell? ⟨gb537,3,none⟩ = some (.string a0_3) := (blk_cell BK537.out 3).trans rfl; have hfz10_0 := blk_frozen BK537.out 0; have hfz10_1 := blk_frozen BK537.out 1; have hfz10_2 := blk_frozen BK537.out 2; have hfz10_3 := blk_frozen BK537.out 3) | ((with_reducible refine gate_callee (f:=4) rfl ?_); refine goesL_ (some 19) rfl rfl Tryz.func4 (by kernel_rfl) rfl #[.agg #[.int .i64 a0_0,.int .i64 a0_1,.int .i64 a0_2,.string a0_3],.int .i64 1048576] rfl mA ?_; (with_reducible refine (laws_szEntry.calls a0_0 a0_1 a0_2 a0_3 1048576 t538 _ A7.out).mono ?_); rintro e w11 ⟨rfl,hb⟩; refine ⟨_,rfl,?_⟩; have n0_ := Aside0.mk (blk_below (g:=gb537) (o:=.cells #[.int .i64 a0_0,.int .i64 a0_1,.int .i64 a0_2,.string a0_3] 23 (0,0)) (kA BK537.out) hb); have n1_ := Aside0.mk (below_step bA hb); clear BK537; clear HB; have BK537 := n0_; have HB := n1_; clear n0_ n1_; (try clear hb); (try clear hb2); (try clear hk); (try clear hi)))
   go_ret
   exact ⟨by first | rfl | (simp [errW_none,errW_some] <;> rfl) | (simp [*,errW_none,errW_some] <;> rfl),bA⟩
  ·rw [if_neg c8] at H
   have c8b0 : decide (t538 < 0) = false := decide_eq_false c8
   clear c8
   replace H := Option.bind_eq_some_iff.mp H
   obtain ⟨⟨t539,t540,t541,t542⟩,A120,H⟩ := H
   try dsimp only at H
   have A12 := Aside0.mk A120
   clear A120
   replace H := Option.bind_eq_some_iff.mp H
   obtain ⟨⟨t543,t544,t545,t546,t547,t548,t549⟩,A130,H⟩ := H
   try dsimp only at H
   have A13 := Aside0.mk A130
   clear A130
   replace H := Option.bind_eq_some_iff.mp H
   obtain ⟨⟨t551,t552,t553,t554⟩,A140,H⟩ := H
   try dsimp only at H
   have A14 := Aside0.mk A140
   clear A140
   replace H := Option.bind_eq_some_iff.mp H
   obtain ⟨⟨t555,t556,t557,t558,t559,t560,t561⟩,A150,H⟩ := H
   try dsimp only at H
   have A15 := Aside0.mk A150
   clear A150
   replace H := Option.bind_eq_some_iff.mp H
   obtain ⟨t563,A160,H⟩ := H
   try dsimp only at H
   have A16 := Aside0.mk A160
   clear A160
   by_cases c17 : t563 = true
   ·subst c17
    rw [if_pos rfl] at H
    by_cases c18 : t561 = t549
    ·rw [if_pos c18] at H
     have c18b0 : (t561 == t549) = true := beq_iff_eq.mpr c18
     have c18b1 : (t561 != t549) = false := bne_eq_false_iff_eq.mpr c18
     clear c18
     obtain rfl := Option.some.inj H
     go_enter Tryz.func3,Tryz.ntmps3
     go_wp2_with (first | ((with_reducible refine gate_dst (N:=4) rfl ?_); refine box_event ?hg (N:=4) ?hd (cs := #[.int .i64 a0_0,.int .i64 a0_1,.int .i64 a0_2,.string a0_3]) (t:=23) ?hr ?_; (case hd => rfl); (case hg => rfl); (case hr => first | (go_simp; done) | (go_simp; rfl)); intro gb537 hg w19 hbox hb; have n0_ := Aside0.mk (below_step bA hb); have n1_ := Aside0.mk (hbox); have n2_ := Aside0.mk ((gw hg : w.heap.size ≤ gb537)); have n3_ := Aside0.mk ((gw hg : w.heap.size ≤ gb537)); clear HB; have HB := n0_; have BK537 := n1_; have GW537 := n2_; have GE537 := n3_; clear n0_ n1_ n2_ n3_; clear hb hbox hg; have hcz20_0 : w19.cell? ⟨gb537,0,none⟩ = some (.int .i64 a0_0) := (blk_cell BK537.out 0).trans rfl; have hcz20_1 : w19.cell? ⟨gb537,1,none⟩ = some (.int .i64 a0_1) := (blk_cell BK537.out 1).trans rfl; have hcz20_2 : w19.cell? ⟨gb537,2,none⟩ = some (.int .i64 a0_2) := (blk_cell BK537.out 2).trans rfl; have hcz20_3 : w19.cell? ⟨gb537,3,none⟩ = some (.string a0_3) := (blk_cell BK537.out 3).trans rfl; have hfz20_0 := blk_frozen BK537.out 0; have hfz20_1 := blk_frozen BK537.out 1; have hfz20_2 := blk_frozen BK537.out 2; have hfz20_3 := blk_frozen BK537.out 3) | ((with_reducible refine gate_callee (f:=4) rfl ?_); refine goesL_ (some 19) rfl rfl Tryz.func4 (by kernel_rfl) rfl #[.agg #[.int .i64 a0_0,.int .i64 a0_1,.int .i64 a0_2,.string a0_3],.int .i64 1048576] rfl mA ?_; (with_reducible refine (laws_szEntry.calls a0_0 a0_1 a0_2 a0_3 1048576 t538 _ A7.out).mono ?_); rintro e w21 ⟨rfl,hb⟩; refine ⟨_,rfl,?_⟩; have n0_ := Aside0.mk (blk_below (g:=gb537) (o:=.cells #[.int .i64 a0_0,.int .i64 a0_1,.int .i64 a0_2,.string a0_3] 23 (0,0)) (kA BK537.out) hb); have n1_ := Aside0.mk (below_step bA hb); clear BK537; clear HB; have BK537 := n0_; have HB := n1_; clear n0_ n1_; (try clear hb); (try clear hb2); (try clear hk); (try clear hi); have hcz22_0 : w21.cell? ⟨gb537,0,none⟩ = some (.int .i64 a0_0) := (blk_cell BK537.out 0).trans rfl; have hcz22_1 : w21.cell? ⟨gb537,1,none⟩ = some (.int .i64 a0_1) := (blk_cell BK537.out 1).trans rfl; have hcz22_2 : w21.cell? ⟨gb537,2,none⟩ = some (.int .i64 a0_2) := (blk_cell BK537.out 2).trans rfl; have hcz22_3 : w21.cell? ⟨gb537,3,none⟩ = some (.string a0_3) := (blk_cell BK537.out 3).trans rfl; have hfz22_0 := blk_frozen BK537.out 0; have hfz22_1 := blk_frozen BK537.out 1; have hfz22_2 := blk_frozen BK537.out 2; have hfz22_3 := blk_frozen BK537.out 3) | ((with_reducible refine gate_callee (f:=6) rfl ?_); refine goesL_ (some 24) rfl rfl Tryz.func6 (by kernel_rfl) rfl #[.agg #[.int .i64 a0_0,.int .i64 a0_1,.int .i64 a0_2,.string a0_3]] rfl mA ?_; (with_reducible refine (laws_toEntry.calls a0_0 a0_1 a0_2 a0_3 t539 t540 t541 t542 _ A12.out).mono ?_); rintro e w23 ⟨rfl,hb⟩; refine ⟨_,rfl,?_⟩; have n0_ := Aside0.mk (blk_below (g:=gb537) (o:=.cells #[.int .i64 a0_0,.int .i64 a0_1,.int .i64 a0_2,.string a0_3] 23 (0,0)) (kA BK537.out) hb); have n1_ := Aside0.mk (below_step bA hb); clear BK537; clear HB; have BK537 := n0_; have HB := n1_; clear n0_ n1_; (try clear hb); (try clear hb2); (try clear hk); (try clear hi)) | ((with_reducible refine gate_callee (f:=5) rfl ?_); refine goesL_ (some 28) rfl rfl Tryz.func5 (by kernel_rfl) rfl #[.agg #[.int .i64 t539,.int .i64 t540,.int .i64 t541,.string t542],.string a1,.int .i64 a2,.int .i64 a3] rfl mA ?_; (with_reducible refine (spec_WindowOf.calls k t539 t540 t541 t542 a1 a2 a3 t543 t544 t545 t546 t547 t548 t549 _ A13.out).mono ?_); rintro e w24 ⟨rfl,hb⟩; refine ⟨_,rfl,?_⟩; have n0_ := Aside0.mk (blk_below (g:=gb537) (o:=.cells #[.int .i64 a0_0,.int .i64 a0_1,.int .i64 a0_2,.string a0_3] 23 (0,0)) (kA BK537.out) hb); have n1_ := Aside0.mk (below_step bA hb); clear BK537; clear HB; have BK537 := n0_; have HB := n1_; clear n0_ n1_; (try clear hb); (try clear hb2); (try clear hk); (try clear hi)) | ((with_reducible refine gate_dst (N:=10) rfl ?_); refine box_event ?hg (N:=10) ?hd (cs := #[.int .i64 0,.int .i64 0,.int .i64 0,.int .i64 0,.int .i64 0,.int .i64 0]) (t:=26) ?hr ?_; (case hd => rfl); (case hg => rfl); (case hr => first | (go_simp; done) | (go_simp; rfl)); intro gb550 hg w25 hbox hb; have n0_ := Aside0.mk (blk_below (g:=gb537) (o:=.cells #[.int .i64 a0_0,.int .i64 a0_1,.int .i64 a0_2,.string a0_3] 23 (0,0)) (kA BK537.out) hb); have n1_ := Aside0.mk (below_step bA hb); have n2_ := Aside0.mk (hbox); have n3_ := Aside0.mk ((gw hg : w.heap.size ≤ gb550)); have n4_ := Aside0.mk ((gw hg : w.heap.size ≤ gb550)); have n5_ := Aside0.mk ((by rw [hg]; exact Nat.ne_of_lt (blk_lt (g:=gb537) (o:=.cells #[.int .i64 a0_0,.int .i64 a0_1,.int .i64 a0_2,.string a0_3] 23 (0,0)) (kA BK537.out)) : gb537 ≠ gb550)); have n6_ := Aside0.mk ((by rw [hg]; exact Nat.ne_of_gt (blk_lt (g:=gb537) (o:=.cells #[.int .i64 a0_0,.int .i64 a0_1,.int .i64 a0_2,.string a0_3] 23 (0,0)) (kA BK537.out)) : gb550 ≠ gb537)); clear BK537; clear HB; have BK537 := n0_; have HB := n1_; have BK550 := n2_; have GW550 := n3_; have GE550 := n4_; have NB537_550 := n5_; have NB550_537 := n6_; clear n0_ n1_ n2_ n3_ n4_ n5_ n6_; clear hb hbox hg; have hnb26 := NB550_537.out; have hnc26 := NB537_550.out; have hcz27_0 : w25.cell? ⟨gb550,0,none⟩ = some (.int .i64 0) := (blk_cell BK550.out 0).trans rfl; have hcz27_1 : w25.cell? ⟨gb550,1,none⟩ = some (.int .i64 0) := (blk_cell BK550.out 1).trans rfl; have hcz27_2 : w25.cell? ⟨gb550,2,none⟩ = some (.int .i64 0) := (blk_cell BK550.out 2).trans rfl; have hcz27_3 : w25.cell? ⟨gb550,3,none⟩ = some (.int .i64 0) := (blk_cell BK550.out 3).trans rfl; have hcz27_4 : w25.cell? ⟨gb550,4,none⟩ = some (.int .i64 0) := (blk_cell BK550.out 4).trans rfl; have hcz27_5 : w25.cell? ⟨gb550,5,none⟩ = some (.int .i64 0) := (blk_cell BK550.out 5).trans rfl; have hfz27_0 := blk_frozen BK550.out 0; have hfz27_1 := blk_frozen BK550.out 1; have hfz27_2 := blk_frozen BK550.out 2; have hfz27_3 := blk_frozen BK550.out 3; have hfz27_4 := blk_frozen BK550.out 4; have hfz27_5 := blk_frozen BK550.out 5; have hcz28_0 : w25.cell? ⟨gb537,0,none⟩ = some (.int .i64 a0_0) := (blk_cell BK537.out 0).trans rfl; have hcz28_1 : w25.cell? ⟨gb537,1,none⟩ = some (.int .i64 a0_1) := (blk_cell BK537.out 1).trans rfl; have hcz28_2 : w25.cell? ⟨gb537,2,none⟩ = some (.int .i64 a0_2) := (blk_cell BK537.out 2).trans rfl; have hcz28_3 : w25.cell? ⟨gb537,3,none⟩ = some (.string a0_3) := (blk_cell BK537.out 3).trans rfl; have hfz28_0 := blk_frozen BK537.out 0; have hfz28_1 := blk_frozen BK537.out 1; have hfz28_2 := blk_frozen BK537.out 2; have hfz28_3 := blk_frozen BK537.out 3) | ((with_reducible refine gate_callee (f:=6) rfl ?_); refine goesL_ (some 33) rfl rfl Tryz.func6 (by kernel_rfl) rfl #[.agg #[.int .i64 a0_0,.int .i64 a0_1,.int .i64 a0_2,.string a0_3]] rfl mA ?_; (with_reducible refine (laws_toEntry.calls a0_0 a0_1 a0_2 a0_3 t551 t552 t553 t554 _ A14.out).mono ?_); rintro e w29 ⟨rfl,hb⟩; refine ⟨_,rfl,?_⟩; have n0_ := Aside0.mk (blk_below (g:=gb537) (o:=.cells #[.int .i64 a0_0,.int .i64 a0_1,.int .i64 a0_2,.string a0_3] 23 (0,0)) (kF BK537.out) hb); have n1_ := Aside0.mk (blk_below (g:=gb550) (o:=.cells #[.int .i64 t543,.int .i64 t544,.int .i64 t545,.int .i64 t546,.int .i64 t547,.int .i64 t548] 26 (0,0)) (by (with_reducible repeat (first | refine blk_drewN ?_ _ | refine blk_drew ?_ | refine blk_alloc ?_ _)); apply blkp6; (with_reducible repeat (first | refine blk_drewN ?_ _ | refine blk_drew ?_ | refine blk_alloc ?_ _)); exact BK550.out) hb); have n2_ := Aside0.mk (below_step bA hb); clear BK537; clear BK550; clear HB; have BK537 := n0_; have BK550 := n1_; have HB := n2_; clear n0_ n1_ n2_; (try clear hb); (try clear hb2); (try clear hk); (try clear hi)) | ((with_reducible refine gate_callee (f:=7) rfl ?_); refine goesL_ (some 37) rfl rfl Tryz.func7 (by kernel_rfl) rfl #[.agg #[.int .i64 t551,.int .i64 t552,.int .i64 t553,.string t554],.string a1,.int .i64 a2,.int .i64 a3] rfl mA ?_; (with_reducible refine (impl_WindowOf.calls k t551 t552 t553 t554 a1 a2 a3 t555 t556 t557 t558 t559 t560 t561 _ ?side1 A15.out).mono ?_); (case side1 => exact HV.out.below bA); rintro e w30 ⟨rfl,hb⟩; refine ⟨_,rfl,?_⟩; have n0_ := Aside0.mk (blk_below (g:=gb537) (o:=.cells #[.int .i64 a0_0,.int .i64 a0_1,.int .i64 a0_2,.string a0_3] 23 (0,0)) (kA BK537.out) hb); have n1_ := Aside0.mk (blk_below (g:=gb550) (o:=.cells #[.int .i64 t543,.int .i64 t544,.int .i64 t545,.int .i64 t546,.int .i64 t547,.int .i64 t548] 26 (0,0)) (kA BK550.out) hb); have n2_ := Aside0.mk (below_step bA hb); clear BK537; clear BK550; clear HB; have BK537 := n0_; have BK550 := n1_; have HB := n2_; clear n0_ n1_ n2_; (try clear hb); (try clear hb2); (try clear hk); (try clear hi)) | ((with_reducible refine gate_dst (N:=12) rfl ?_); refine box_event ?hg (N:=12) ?hd (cs := #[.int .i64 0,.int .i64 0,.int .i64 0,.int .i64 0,.int .i64 0,.int .i64 0]) (t:=26) ?hr ?_; (case hd => rfl); (case hg => rfl); (case hr => first | (go_simp; done) | (go_simp; rfl)); intro gb562 hg w31 hbox hb; have n0_ := Aside0.mk (blk_below (g:=gb537) (o:=.cells #[.int .i64 a0_0,.int .i64 a0_1,.int .i64 a0_2,.string a0_3] 23 (0,0)) (kA BK537.out) hb); have n1_ := Aside0.mk (blk_below (g:=gb550) (o:=.cells #[.int .i64 t543,.int .i64 t544,.int .i64 t545,.int .i64 t546,.int .i64 t547,.int .i64 t548] 26 (0,0)) (kA BK550.out) hb); have n2_ := Aside0.mk (below_step bA hb); have n3_ := Aside0.mk (hbox); have n4_ := Aside0.mk ((gw hg : w.heap.size ≤ gb562)); have n5_ := Aside0.mk ((gw hg : w.heap.size ≤ gb562)); have n6_ := Aside0.mk ((by rw [hg]; exact Nat.ne_of_lt (blk_lt (g:=gb537) (o:=.cells #[.int .i64 a0_0,.int .i64 a0_1,.int .i64 a0_2,.string a0_3] 23 (0,0)) (kA BK537.out)) : gb537 ≠ gb562)); have n7_ := Aside0.mk ((by rw [hg]; exact Nat.ne_of_gt (blk_lt (g:=gb537) (o:=.cells #[.int .i64 a0_0,.int .i64 a0_1,.int .i64 a0_2,.string a0_3] 23 (0,0)) (kA BK537.out)) : gb562 ≠ gb537)); have n8_ := Aside0.mk ((by rw [hg]; exact Nat.ne_of_lt (blk_lt (g:=gb550) (o:=.cells #[.int .i64 t543,.int .i64 t544,.int .i64 t545,.int .i64 t546,.int .i64 t547,.int .i64 t548] 26 (0,0)) (kA BK550.out)) : gb550 ≠ gb562)); have n9_ := Aside0.mk ((by rw [hg]; exact Nat.ne_of_gt (blk_lt (g:=gb550) (o:=.cells #[.int .i64 t543,.int .i64 t544,.int .i64 t545,.int .i64 t546,.int .i64 t547,.int .i64 t548] 26 (0,0)) (kA BK550.out)) : gb562 ≠ gb550)); clear BK537; clear BK550; clear HB; have BK537 := n0_; have BK550 := n1_; have HB := n2_; have BK562 := n3_; have GW562 := n4_; have GE562 := n5_; have NB537_562 := n6_; have NB562_537 := n7_; have NB550_562 := n8_; have NB562_550 := n9_; clear n0_ n1_ n2_ n3_ n4_ n5_ n6_ n7_ n8_ n9_; clear hb hbox hg; have hnb32 := NB562_537.out; have hnc32 := NB537_562.out; have hnb33 := NB562_550.out; have hnc33 := NB550_562.out; have hcz34_0 : w31.cell? ⟨gb562,0,none⟩ = some (.int .i64 0) := (blk_cell BK562.out 0).trans rfl; have hcz34_1 : w31.cell? ⟨gb562,1,none⟩ = some (.int .i64 0) := (blk_cell BK562.out 1).trans rfl; have hcz34_2 : w31.cell? ⟨gb562,2,none⟩ = some (.int .i64 0) := (blk_cell BK562.out 2).trans rfl; have hcz34_3 : w31.cell? ⟨gb562,3,none⟩ = some (.int .i64 0) := (blk_cell BK562.out 3).trans rfl; have hcz34_4 : w31.cell? ⟨gb562,4,none⟩ = some (.int .i64 0) := (blk_cell BK562.out 4).trans rfl; have hcz34_5 : w31.cell? ⟨gb562,5,none⟩ = some (.int .i64 0) := (blk_cell BK562.out 5).trans rfl; have hfz34_0 := blk_frozen BK562.out 0; have hfz34_1 := blk_frozen BK562.out 1; have hfz34_2 := blk_frozen BK562.out 2; have hfz34_3 := blk_frozen BK562.out 3; have hfz34_4 := blk_frozen BK562.out 4; have hfz34_5 := blk_frozen BK562.out 5; have hcz35_0 : w31.cell? ⟨gb550,0,none⟩ = some (.int .i64 t543) := (blk_cell BK550.out 0).trans rfl; have hcz35_1 : w31.cell? ⟨gb550,1,none⟩ = some (.int .i64 t544) := (blk_cell BK550.out 1).trans rfl; have hcz35_2 : w31.cell? ⟨gb550,2,none⟩ = some (.int .i64 t545) := (blk_cell BK550.out 2).trans rfl; have hcz35_3 : w31.cell? ⟨gb550,3,none⟩ = some (.int .i64 t546) := (blk_cell BK550.out 3).trans rfl; have hcz35_4 : w31.cell? ⟨gb550,4,none⟩ = some (.int .i64 t547) := (blk_cell BK550.out 4).trans rfl; have hcz35_5 : w31.cell? ⟨gb550,5,none⟩ = some (.int .i64 t548) := (blk_cell BK550.out 5).trans rfl; have hfz35_0 := blk_frozen BK550.out 0; have hfz35_1 := blk_frozen BK550.out 1; have hfz35_2 := blk_frozen BK550.out 2; have hfz35_3 := blk_frozen BK550.out 3; have hfz35_4 := blk_frozen BK550.out 4; have hfz35_5 := blk_frozen BK550.out 5) | ((with_reducible refine gate_callee (f:=8) rfl ?_); refine goesL_ (some 42) rfl rfl Tryz.func8 (by kernel_rfl) rfl #[.agg #[.int .i64 t555,.int .i64 t556,.int .i64 t557,.int .i64 t558,.int .i64 t559,.int .i64 t560],.agg #[.int .i64 t543,.int .i64 t544,.int .i64 t545,.int .i64 t546,.int .i64 t547,.int .i64 t548]] rfl mA ?_; (with_reducible refine (laws_eqAgg.calls t555 t556 t557 t558 t559 t560 t543 t544 t545 t546 t547 t548 true _ A16.out).mono ?_); rintro e w36 ⟨rfl,hb⟩; refine ⟨_,rfl,?_⟩; have n0_ := Aside0.mk (blk_below (g:=gb537) (o:=.cells #[.int .i64 a0_0,.int .i64 a0_1,.int .i64 a0_2,.string a0_3] 23 (0,0)) (kF BK537.out) hb); have n1_ := Aside0.mk (blk_below (g:=gb550) (o:=.cells #[.int .i64 t543,.int .i64 t544,.int .i64 t545,.int .i64 t546,.int .i64 t547,.int .i64 t548] 26 (0,0)) (kF BK550.out) hb); have n2_ := Aside0.mk (blk_below (g:=gb562) (o:=.cells #[.int .i64 t555,.int .i64 t556,.int .i64 t557,.int .i64 t558,.int .i64 t559,.int .i64 t560] 26 (0,0)) (by (with_reducible repeat (first | refine blk_drewN ?_ _ | refine blk_drew ?_ | refine blk_alloc ?_ _)); apply blkp6; (with_reducible repeat (first | refine blk_drewN ?_ _ | refine blk_drew ?_ | refine blk_alloc ?_ _)); exact BK562.out) hb); have n3_ := Aside0.mk (below_step bA hb); clear BK537; clear BK550; clear BK562; clear HB; have BK537 := n0_; have BK550 := n1_; have BK562 := n2_; have HB := n3_; clear n0_ n1_ n2_ n3_; (try clear hb); (try clear hb2); (try clear hk); (try clear hi)))
     go_ret
     exact ⟨by first | rfl | (simp [errW_none,errW_some] <;> rfl) | (simp [*,errW_none,errW_some] <;> rfl),bA⟩
    ·rw [if_neg c18] at H
     exact absurd H (by simp)
   ·replace c17 := Bool.eq_false_iff.mpr c17
    subst c17
    rw [if_neg (show ¬ (false = true) by decide)] at H
    exact absurd H (by simp)

end Go.Proofs.YtleifhnoaaphmaaGreatDoor.XFnExactWindowOf
