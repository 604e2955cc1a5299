-- Printed by this session's own program wip/tools/xprint.py, which widens the kit's print. Not trusted: Lean checks it.
import Derived.Test.YtgkfemnfbkgeiaaXFnListx0
import Derived.Test.YtgkfemnfbkgeiaaXFnListx5
import Derived.Test.YtgkfemnfbkgeiaaXFnListx6
import Derived.Test.YtgkfemnfbkgeiaaXFnListx7
namespace Go.Proofs.Ytgkfemnfbkgeiaa.XFnList
open List (setIfInBounds_toArray set_cons_zero set_cons_succ)
open Go.RowKit Go.Proofs.YtgkfemnfbkgeiaaW.PrintWords Go.Proofs.YtgkfemnfbkgeiaaW.PrintLast Go.Proofs.YtgkfemnfbkgeiaaW.PrintMore
attribute [local go_sem] max2_int min2_int max_two min_two max_three min_three max_four min_four   -- for this text's walks alone
set_option linter.unusedVariables false
set_option linter.unusedSimpArgs false

/-! ### impl_ListKeys: function 8 -/
def impl_ListKeys.f (k : Nat) (l0_0 : List (S32)) (a0_1 : Int) (a1 : ByteArray) (a2 : ByteArray) (a3 : Int) : Option (List ByteArray × Int) := (impl_isLong.f (([a1,a2] : List ByteArray))).bind fun t364 => ((impl_StoreOK.f k l0_0 a0_1).bind fun t365 => ((impl_within.f a3 0 300).bind fun t366 => ((impl_first.f k (([anyB t364,anyI 2,anyB (!t365),anyI 1,anyB (!t366),anyI 4] : List AnyV))).bind fun t370 => (if t370 = 0 then ((impl_Store_keys.f k l0_0 a0_1 a1).bind fun t371 => ((slices_DeleteFunc_string_string.f t371 a2).bind fun t374 => (if 0 ≤ (mn a3 (t374.length : Int)) then (if (mn a3 (t374.length : Int)) ≤ (t374.length : Int) then ((slices_Clone_string_string.f (t374.take ((mn a3 (t374.length : Int)) : Int).toNat)).bind fun t381 => (some (t381,0))) else (none)) else (none)))) else (some (([] : List ByteArray),t370))))))
theorem impl_ListKeys.mono : ∀ a0 a1 a2 a3 a4 k,LeO (impl_ListKeys.f k a0 a1 a2 a3 a4) (impl_ListKeys.f (k + 1) a0 a1 a2 a3 a4) := by
 intro a0 a1 a2 a3 a4 k
 unfold impl_ListKeys.f
 repeat' first
   | (with_reducible exact impl_StoreOK.mono _ _ _)
   | (with_reducible exact impl_Store_keys.mono _ _ _ _)
   | (with_reducible exact impl_first.mono _ _)
   | (with_reducible exact LeO.refl _)
   | (with_reducible exact LeO.none _)
   | (with_reducible refine LeO.ite ?_ ?_)
   | (with_reducible refine LeO.bind ?_ (fun _ => ?_))
   | exact impl_StoreOK.mono _ _ _
   | exact impl_Store_keys.mono _ _ _ _
   | exact impl_first.mono _ _
   | exact LeO.none _
   | refine LeO.ite ?_ ?_
   | refine LeO.bind ?_ (fun _ => ?_)
def impl_ListKeys.T1 : Bool × List (List Nat × List Nat) := (true,[([],[]),([],[]),([0,1],[0,1]),([2],[2]),([3],[3]),([],[]),([],[]),([6,3],[6]),([7],[7]),([8],[8]),([],[]),([],[]),([11,7],[11]),([12],[12]),([13],[13]),([],[]),([4,5,9,10,14,15],[4,5,9,10,14,15]),([16,12],[16]),([17,17,0,1,2,3,4,5,6,7,8,9,10,11,12,13,14,15,16,17],[17])])
def impl_ListKeys.B1 : List Nat := [0,0,3,7,15,0,0,79,207,463,0,0,2255,6351,14543,0,65535,131071,262143]
theorem impl_ListKeys.tab1 : rtab .any (opsOf Try.f8 1) = impl_ListKeys.T1 := by kernel_rfl
theorem impl_ListKeys.bits1 : waitsOk impl_ListKeys.T1.2 impl_ListKeys.B1 = true := by kernel_rfl
set_option maxHeartbeats 8000000 in
set_option maxRecDepth 100000 in
theorem impl_ListKeys.calls (k : Nat) (A0_0 : Option Addr) (c0_0 : Nat) (l0_0 : List (S32)) (a0_1 : Int) (a1 : ByteArray) (a2 : ByteArray) (a3 : Int) (r1 : List ByteArray) (r2 : Int) (w : World) (hr0_0 : Kd.C k32 w A0_0 l0_0.length l0_0) (hc0_0 : l0_0.length ≤ c0_0) (h : impl_ListKeys.f k l0_0 a0_1 a1 a2 a3 = some (r1,r2)) :
  Calls Try.prog 8 #[.agg #[.slice A0_0 l0_0.length c0_0,.int .i64 a0_1],.string a1,.string a2,.int .i64 a3] w fun e w' => ∃ v0_ : Value,e = .returned (.tuple #[v0_,.int .i64 r2]) ∧ Kd.R Kd.string 9 w' w.heap.size (fun _ => True) v0_ r1 ∧ Below w.heap.size w w' := by
 have hu25 := Try.underlying25
 have hua20 := Try.underlying20
 have HR0_0 := Aside0.mk hr0_0
 have HC0_0 := Aside0.mk hc0_0
 clear hr0_0 hc0_0
 have HB := Aside0.mk (Below.refl w.heap.size w)
 have H : ((impl_isLong.f (([a1,a2] : List ByteArray))).bind fun t364 => ((impl_StoreOK.f k l0_0 a0_1).bind fun t365 => ((impl_within.f a3 0 300).bind fun t366 => ((impl_first.f k (([anyB t364,anyI 2,anyB (!t365),anyI 1,anyB (!t366),anyI 4] : List AnyV))).bind fun t370 => (if t370 = 0 then ((impl_Store_keys.f k l0_0 a0_1 a1).bind fun t371 => ((slices_DeleteFunc_string_string.f t371 a2).bind fun t374 => (if 0 ≤ (mn a3 (t374.length : Int)) then (if (mn a3 (t374.length : Int)) ≤ (t374.length : Int) then ((slices_Clone_string_string.f (t374.take ((mn a3 (t374.length : Int)) : Int).toNat)).bind fun t381 => (some (t381,0))) else (none)) else (none)))) else (some (([] : List ByteArray),t370))))))) = some (r1,r2) := h
 clear h
 obtain ⟨y361,hy361⟩ : ∃ y_ : List ByteArray,y_ = (([a1,a2] : List ByteArray)) := ⟨_,rfl⟩
 replace H : ((impl_isLong.f y361).bind fun t364 => ((impl_StoreOK.f k l0_0 a0_1).bind fun t365 => ((impl_within.f a3 0 300).bind fun t366 => ((impl_first.f k (([anyB t364,anyI 2,anyB (!t365),anyI 1,anyB (!t366),anyI 4] : List AnyV))).bind fun t370 => (if t370 = 0 then ((impl_Store_keys.f k l0_0 a0_1 a1).bind fun t371 => ((slices_DeleteFunc_string_string.f t371 a2).bind fun t374 => (if 0 ≤ (mn a3 (t374.length : Int)) then (if (mn a3 (t374.length : Int)) ≤ (t374.length : Int) then ((slices_Clone_string_string.f (t374.take ((mn a3 (t374.length : Int)) : Int).toNat)).bind fun t381 => (some (t381,0))) else (none)) else (none)))) else (some (([] : List ByteArray),t370))))))) = some (r1,r2) := by first | (rw [hy361]; with_reducible exact H) | (have H2_ := (Option.bind_some _ _).symm.trans H; rw [hy361]; with_reducible exact H2_) | (have H2_ := (Option.bind_some _ _).symm.trans H; with_reducible exact H2_) | with_reducible exact H | (rw [hy361]; exact H) | exact H
 have Ny361 := Aside0.mk hy361
 clear hy361
 replace H := Option.bind_eq_some_iff.mp H
 obtain ⟨t364,A50,H⟩ := H
 try dsimp only at H
 have A5 := Aside0.mk A50
 clear A50
 replace H := Option.bind_eq_some_iff.mp H
 obtain ⟨t365,A60,H⟩ := H
 try dsimp only at H
 have A6 := Aside0.mk A60
 clear A60
 replace H := Option.bind_eq_some_iff.mp H
 obtain ⟨t366,A70,H⟩ := H
 try dsimp only at H
 have A7 := Aside0.mk A70
 clear A70
 obtain ⟨y367,hy367⟩ : ∃ y_ : List AnyV,y_ = (([anyB t364,anyI 2,anyB (!t365),anyI 1,anyB (!t366),anyI 4] : List AnyV)) := ⟨_,rfl⟩
 replace H : ((impl_first.f k y367).bind fun t370 => (if t370 = 0 then ((impl_Store_keys.f k l0_0 a0_1 a1).bind fun t371 => ((slices_DeleteFunc_string_string.f t371 a2).bind fun t374 => (if 0 ≤ (mn a3 (t374.length : Int)) then (if (mn a3 (t374.length : Int)) ≤ (t374.length : Int) then ((slices_Clone_string_string.f (t374.take ((mn a3 (t374.length : Int)) : Int).toNat)).bind fun t381 => (some (t381,0))) else (none)) else (none)))) else (some (([] : List ByteArray),t370)))) = some (r1,r2) := by first | (rw [hy367]; with_reducible exact H) | (have H2_ := (Option.bind_some _ _).symm.trans H; rw [hy367]; with_reducible exact H2_) | (have H2_ := (Option.bind_some _ _).symm.trans H; with_reducible exact H2_) | with_reducible exact H | (rw [hy367]; exact H) | exact H
 have Ny367 := Aside0.mk hy367
 clear hy367
 replace H := Option.bind_eq_some_iff.mp H
 obtain ⟨t370,A80,H⟩ := H
 try dsimp only at H
 have A8 := Aside0.mk A80
 clear A80
 by_cases c9 : t370 = 0
 ·rw [if_pos c9] at H
  have c9b0 : (t370 == 0) = true := beq_iff_eq.mpr c9
  have c9b1 : (t370 != 0) = false := bne_eq_false_iff_eq.mpr c9
  clear c9
  replace H := Option.bind_eq_some_iff.mp H
  obtain ⟨t371,A100,H⟩ := H
  try dsimp only at H
  have A10 := Aside0.mk A100
  clear A100
  replace H := Option.bind_eq_some_iff.mp H
  obtain ⟨t374,A110,H⟩ := H
  try dsimp only at H
  have A11 := Aside0.mk A110
  clear A110
  obtain ⟨ji12,hji12⟩ : ∃ j_ : Int,(mn a3 (t374.length : Int)) = j_ := ⟨_,rfl⟩
  replace H : (if 0 ≤ (ji12) then (if (ji12) ≤ (t374.length : Int) then ((slices_Clone_string_string.f (t374.take ((ji12) : Int).toNat)).bind fun t381 => (some (t381,0))) else (none)) else (none)) = some (r1,r2) := by first | (rw [hji12] at H; exact H) | (simp only [hji12] at H ⊢; exact H)
  (try rw [hji12] at A5)
  (try rw [hji12] at A6)
  (try rw [hji12] at A7)
  (try rw [hji12] at A8)
  (try rw [hji12] at A10)
  (try rw [hji12] at A11)
  have hji12_ : (if (t374.length : Int) < a3 then (t374.length : Int) else a3) = ji12 := hji12
  by_cases c13 : 0 ≤ (ji12)
  ·rw [if_pos c13] at H
   have c13b0 := eq_true c13
   have c13b1 : decide (0 ≤ (ji12)) = true := decide_eq_true c13
   clear c13
   by_cases c14 : (ji12) ≤ (t374.length : Int)
   ·rw [if_pos c14] at H
    have c14b0 := eq_true c14
    have c14b1 : decide ((ji12) ≤ (t374.length : Int)) = true := decide_eq_true c14
    clear c14
    obtain ⟨y377,hy377⟩ : ∃ y_ : List ByteArray,y_ = (t374.take ((ji12) : Int).toNat) := ⟨_,rfl⟩
    replace H : ((slices_Clone_string_string.f y377).bind fun t381 => (some (t381,0))) = some (r1,r2) := by first | (rw [hy377]; with_reducible exact H) | (have H2_ := (Option.bind_some _ _).symm.trans H; rw [hy377]; with_reducible exact H2_) | (have H2_ := (Option.bind_some _ _).symm.trans H; with_reducible exact H2_) | with_reducible exact H | (rw [hy377]; exact H) | exact H
    have Ny377 := Aside0.mk hy377
    clear hy377
    replace H := Option.bind_eq_some_iff.mp H
    obtain ⟨t381,A150,H⟩ := H
    try dsimp only at H
    have A15 := Aside0.mk A150
    clear A150
    simp only [Option.some.injEq,Prod.mk.injEq] at H
    obtain ⟨rfl,rfl⟩ := H
    go_enter Try.func8,Try.ntmps8
    try go_wp2_with (first | ((with_reducible refine gate_dst (N:=4) rfl ?_); refine box_event ?hg (N:=4) ?hd (cs := #[.slice A0_0 l0_0.length c0_0,.int .i64 a0_1]) (t:=25) ?hr ?_; (case hd => rfl); (case hg => rfl); (case hr => first | (go_simp; done) | (go_simp; rfl)); intro gb359 hg w16 hbox hb; have n0_ := Aside0.mk (below_step bA hb); have n1_ := Aside0.mk (hbox); have n2_ := Aside0.mk ((by rw [hg]; exact (below_size bA) : w.heap.size ≤ gb359)); have n3_ := Aside0.mk ((by rw [hg]; exact (below_size bA) : w.heap.size ≤ gb359)); clear HB; have HB := n0_; have BK359 := n1_; have GW359 := n2_; have GE359 := n3_; clear n0_ n1_ n2_ n3_; clear hb hbox hg) | ((with_reducible refine gate_dst (N:=6) rfl ?_); refine box_event ?hg (N:=6) ?hd (cs := #[.string a2]) (t:=9) ?hr ?_; (case hd => rfl); (case hg => rfl); (case hr => first | (go_simp; done) | (go_simp; rfl)); intro gb360 hg w17 hbox hb; have n0_ := Aside0.mk (blk_below (g:=gb359) (o:=.cells #[.slice A0_0 l0_0.length c0_0,.int .i64 a0_1] 25 (0,0)) (kA BK359.out) hb); have n1_ := Aside0.mk (below_step bA hb); have n2_ := Aside0.mk (hbox); have n3_ := Aside0.mk ((by rw [hg]; exact (below_size bA) : w.heap.size ≤ gb360)); have n4_ := Aside0.mk ((by rw [hg]; exact (below_size bA) : w.heap.size ≤ gb360)); have n5_ := Aside0.mk ((by rw [hg]; exact Nat.ne_of_lt (blk_lt (g:=gb359) (o:=.cells #[.slice A0_0 l0_0.length c0_0,.int .i64 a0_1] 25 (0,0)) (kA BK359.out)) : gb359 ≠ gb360)); have n6_ := Aside0.mk ((by rw [hg]; exact Nat.ne_of_gt (blk_lt (g:=gb359) (o:=.cells #[.slice A0_0 l0_0.length c0_0,.int .i64 a0_1] 25 (0,0)) (kA BK359.out)) : gb360 ≠ gb359)); clear BK359; clear HB; have BK359 := n0_; have HB := n1_; have BK360 := n2_; have GW360 := n3_; have GE360 := n4_; have NB359_360 := n5_; have NB360_359 := n6_; clear n0_ n1_ n2_ n3_ n4_ n5_ n6_; clear hb hbox hg))
    have n0_ := Aside0.mk (blk_drew BK359.out)
    have n1_ := Aside0.mk (blk_drew BK360.out)
    have n2_ := Aside0.mk (below_drew1 HB.out)
    clear BK359
    clear BK360
    clear HB
    have BK359 := n0_
    have BK360 := n1_
    have HB := n2_
    clear n0_ n1_ n2_
    refine start_ (n:=19) (S:=fun w' => w'.cell? ⟨gb360,0,none⟩ = some (.string a2) ∧ w'.cell? ⟨gb359,0,none⟩ = some (.slice A0_0 l0_0.length c0_0) ∧ w'.cell? ⟨gb359,1,none⟩ = some (.int .i64 a0_1)) (ds := []) (bm 19 0) (by kernel_rfl) rfl rfl ⟨(blk_cell BK360.out 0).trans rfl,(blk_cell BK359.out 0).trans rfl,(blk_cell BK359.out 1).trans rfl⟩ (fun hHeld => ?_); refine with_tabW impl_ListKeys.tab1 impl_ListKeys.bits1 (fun HT_ HW_ => ?_)
    generalize w17.drew = w18 at BK359 BK360 HB hHeld ⊢
    refine pV_ 0 12 (bm 19 1) HT_.out ?_
    refine pV_ 5 17 (bm 19 33) HT_.out ?_
    refine pV_ 10 22 (bm 19 1057) HT_.out ?_
    refine pV_ 11 23 (bm 19 3105) HT_.out ?_
    refine pV_ 15 27 (bm 19 35873) HT_.out ?_
    refine take_ (i:=1) (N:=some 13) (v:=?_) (a':=?_) (bm 19 35875) rfl rfl (take_ofW HT_.out HW_.out (by kernel_rfl)) (fun _ _ _ h => h) (Or.inl ⟨by rfl,?_⟩) hHeld ?_ ?_
    rotate_left
    ·rintro w' ⟨s0,s1,s2⟩
     go_simp
     with_reducible rfl
    rotate_left
    ·simp only [Act.put,setIfInBounds_toArray,set_cons_zero,set_cons_succ,i64_w,i32_w]
     rfl
    refine take_ (i:=6) (N:=some 18) (v:=?_) (a':=?_) (bm 19 35939) rfl rfl (take_ofW HT_.out HW_.out (by kernel_rfl)) (fun _ _ _ h => h) (Or.inl ⟨by rfl,?_⟩) hHeld ?_ ?_
    rotate_left
    ·rintro w' ⟨s0,s1,s2⟩
     go_simp
     with_reducible rfl
    rotate_left
    ·simp only [Act.put,setIfInBounds_toArray,set_cons_zero,set_cons_succ,i64_w,i32_w]
     rfl
    refine one_ (i:=2) (N:=some 14) (bm 19 35943) rfl rfl (one_of HT_.out (by kernel_rfl)) (by decide) (fun K hK => ?_)
    refine Kd.R_lit_step Kd.string _ 9 ?hg (N:=14) ?hd (xs := ([a1,a2] : List ByteArray)) (inner := [.string a1,.string a2]) (ok := fun _ => True) (okp := fun _ => True) ?hr ?hp (fun _ hk => hk) trivial (Below.refl _ _) (Nat.le_refl _) (by simp) ?_; (case hd => rfl); (case hg => rfl); (case hr => first | (go_simp; done) | (go_simp; rfl)); (case hp => exact (Reps.one (show Kd.M Kd.string _ _ _ a1 [.string a1] from rfl) (Reps.one (show Kd.M Kd.string _ _ _ a2 [.string a2] from rfl) (Reps.none _ _))))
    intro v362 w19 ho20 hb hg_ hnew_
    clear hg_ hnew_
    (first | rw [← Ny361.out] at ho20 | (simp only [Int.reduceToNat] at ho20; rw [← Ny361.out] at ho20))
    have n0_ := Aside0.mk (Kd.R_lower (Kd.R_newB ho20 (g:=gb360) (o:=.cells #[.string a2] 9 (0,0)) (kA BK360.out)) (below_size bA))
    have n1_ := Aside0.mk (blk_below (g:=gb359) (o:=.cells #[.slice A0_0 l0_0.length c0_0,.int .i64 a0_1] 25 (0,0)) (kA BK359.out) hb)
    have n2_ := Aside0.mk (blk_below (g:=gb360) (o:=.cells #[.string a2] 9 (0,0)) (kA BK360.out) hb)
    have n3_ := Aside0.mk (below_step bA hb)
    clear BK359
    clear BK360
    clear HB
    have HO363 := n0_
    have BK359 := n1_
    have BK360 := n2_
    have HB := n3_
    clear n0_ n1_ n2_ n3_
    clear hb ho20
    obtain ⟨Ao21,co21,eo21⟩ := Kd.R_slice HO363.out
    (first | subst eo21 | (injection eo21 with f1_ f2_ f3_; have f4_ := f1_.symm; have f5_ := f3_.symm; clear f1_ f2_ f3_; subst f4_; subst f5_))
    refine hK.out _ _ ⟨(blk_cell BK360.out 0).trans rfl,(blk_cell BK359.out 0).trans rfl,(blk_cell BK359.out 1).trans rfl⟩ (fun hHeld => ?_)
    clear hK K
    refine norm_ (a':=?_) ?_ ?_
    rotate_left
    ·show Act.put _ (some 14) _ = _
     simp only [Act.put,setIfInBounds_toArray,set_cons_zero,set_cons_succ,i64_w,i32_w]
     rfl
    refine one_ (i:=3) (N:=some 15) (bm 19 35951) rfl rfl (one_of HT_.out (by kernel_rfl)) (by decide) (fun K hK => ?_)
    refine goes_ Try.func24 (by kernel_rfl) rfl #[.slice Ao21 y361.length co21] (by rfl) rfl rfl mA ?_
    with_reducible refine (impl_isLong.calls _ _ y361 t364 _ ?side1 ?side2 A5.out).mono ?_
    (case side1 => repeat (first | exact (Kd.R_reads' HO363.out).2.2 | (with_reducible refine Kd.C_alloc ?_ _) | (with_reducible refine Kd.C_drewN ?_ _) | (with_reducible refine Kd.C_drew ?_)))
    (case side2 => exact (Kd.R_reads' HO363.out).2.1)
    rintro e w22 ⟨rfl,hb⟩
    refine ⟨_,rfl,?_⟩
    have n0_ := Aside0.mk (Kd.R_below (rA HO363.out) hb)
    have n1_ := Aside0.mk (blk_below (g:=gb359) (o:=.cells #[.slice A0_0 l0_0.length c0_0,.int .i64 a0_1] 25 (0,0)) (kA BK359.out) hb)
    have n2_ := Aside0.mk (blk_below (g:=gb360) (o:=.cells #[.string a2] 9 (0,0)) (kA BK360.out) hb)
    have n3_ := Aside0.mk (below_step bA hb)
    clear HO363
    clear BK359
    clear BK360
    clear HB
    have HO363 := n0_
    have BK359 := n1_
    have BK360 := n2_
    have HB := n3_
    clear n0_ n1_ n2_ n3_
    (try clear hb)
    (try clear hb2)
    (try clear hk)
    (try clear hi)
    refine hK.out _ _ ⟨(blk_cell BK360.out 0).trans rfl,(blk_cell BK359.out 0).trans rfl,(blk_cell BK359.out 1).trans rfl⟩ (fun hHeld => ?_)
    clear hK K
    refine norm_ (a':=?_) ?_ ?_
    rotate_left
    ·show Act.put _ (some 15) _ = _
     simp only [Act.put,setIfInBounds_toArray,set_cons_zero,set_cons_succ,i64_w,i32_w]
     rfl
    refine pV_ 4 16 (bm 19 35967) HT_.out ?_
    refine one_ (i:=7) (N:=some 19) (bm 19 36095) rfl rfl (one_of HT_.out (by kernel_rfl)) (by decide) (fun K hK => ?_)
    refine goes_ Try.func17 (by kernel_rfl) rfl #[.agg #[.slice A0_0 l0_0.length c0_0,.int .i64 a0_1]] (by rfl) rfl rfl mA ?_
    with_reducible refine (impl_StoreOK.calls k _ _ l0_0 a0_1 t365 _ ?side1 ?side2 A6.out).mono ?_
    (case side1 => repeat (first | exact (Kd.C_below HR0_0.out HB.out) | (with_reducible refine Kd.C_alloc ?_ _) | (with_reducible refine Kd.C_drewN ?_ _) | (with_reducible refine Kd.C_drew ?_)))
    (case side2 => exact HC0_0.out)
    rintro e w23 ⟨rfl,hb⟩
    refine ⟨_,rfl,?_⟩
    have n0_ := Aside0.mk (Kd.R_below (rA HO363.out) hb)
    have n1_ := Aside0.mk (blk_below (g:=gb359) (o:=.cells #[.slice A0_0 l0_0.length c0_0,.int .i64 a0_1] 25 (0,0)) (kA BK359.out) hb)
    have n2_ := Aside0.mk (blk_below (g:=gb360) (o:=.cells #[.string a2] 9 (0,0)) (kA BK360.out) hb)
    have n3_ := Aside0.mk (below_step bA hb)
    clear HO363
    clear BK359
    clear BK360
    clear HB
    have HO363 := n0_
    have BK359 := n1_
    have BK360 := n2_
    have HB := n3_
    clear n0_ n1_ n2_ n3_
    (try clear hb)
    (try clear hb2)
    (try clear hk)
    (try clear hi)
    refine hK.out _ _ ⟨(blk_cell BK360.out 0).trans rfl,(blk_cell BK359.out 0).trans rfl,(blk_cell BK359.out 1).trans rfl⟩ (fun hHeld => ?_)
    clear hK K
    refine norm_ (a':=?_) ?_ ?_
    rotate_left
    ·show Act.put _ (some 19) _ = _
     simp only [Act.put,setIfInBounds_toArray,set_cons_zero,set_cons_succ,i64_w,i32_w]
     rfl
    refine pV_ 8 20 (bm 19 36351) HT_.out ?_
    refine pV_ 9 21 (bm 19 36863) HT_.out ?_
    refine one_ (i:=12) (N:=some 24) (bm 19 40959) rfl rfl (one_of HT_.out (by kernel_rfl)) (by decide) (fun K hK => ?_)
    refine goes_ Try.func25 (by kernel_rfl) rfl #[.int .i64 a3,.int .i64 0,.int .i64 300] (by rfl) rfl rfl mA ?_
    with_reducible refine (impl_within.calls a3 0 300 t366 _ A7.out).mono ?_
    rintro e w' ⟨rfl,⟨nd,rfl⟩⟩
    refine ⟨_,rfl,?_⟩
    refine hK.out _ _ ⟨(blk_cell BK360.out 0).trans rfl,(blk_cell BK359.out 0).trans rfl,(blk_cell BK359.out 1).trans rfl⟩ (fun hHeld => ?_)
    clear hK K
    refine norm_ (a':=?_) ?_ ?_
    rotate_left
    ·show Act.put _ (some 24) _ = _
     simp only [Act.put,setIfInBounds_toArray,set_cons_zero,set_cons_succ,i64_w,i32_w]
     rfl
    refine pV_ 13 25 (bm 19 49151) HT_.out ?_
    refine pV_ 14 26 (bm 19 65535) HT_.out ?_
    refine one_ (i:=16) (N:=some 28) (bm 19 131071) rfl rfl (one_of HT_.out (by kernel_rfl)) (by decide) (fun K hK => ?_)
    refine Kd.R_lit_step kAny _ 20 ?hg (N:=28) ?hd (xs := ([anyB t364,anyI 2,anyB (!t365),anyI 1,anyB (!t366),anyI 4] : List AnyV)) (inner := [.iface 4 (.bool t364),.iface 3 (.int .i64 2),.iface 4 (.bool (!t365)),.iface 3 (.int .i64 1),.iface 4 (.bool (!t366)),.iface 3 (.int .i64 4)]) (ok := fun _ => True) (okp := fun _ => True) ?hr ?hp (fun _ hk => hk) trivial (Below.refl _ _) (Nat.le_refl _) (by simp) ?_; (case hd => rfl); (case hg => rfl); (case hr => first | (go_simp; done) | (go_simp; rfl)); (case hp => exact (Reps.one (show Kd.M kAny _ _ _ (anyB t364) [.iface 4 (.bool t364)] from rfl) (Reps.one (show Kd.M kAny _ _ _ (anyI 2) [.iface 3 (.int .i64 2)] from rfl) (Reps.one (show Kd.M kAny _ _ _ (anyB (!t365)) [.iface 4 (.bool (!t365))] from rfl) (Reps.one (show Kd.M kAny _ _ _ (anyI 1) [.iface 3 (.int .i64 1)] from rfl) (Reps.one (show Kd.M kAny _ _ _ (anyB (!t366)) [.iface 4 (.bool (!t366))] from rfl) (Reps.one (show Kd.M kAny _ _ _ (anyI 4) [.iface 3 (.int .i64 4)] from rfl) (Reps.none _ _))))))))
    intro v368 w24 ho25 hb hg_ hnew_
    clear hg_ hnew_
    (first | rw [← Ny367.out] at ho25 | (simp only [Int.reduceToNat] at ho25; rw [← Ny367.out] at ho25))
    have n0_ := Aside0.mk (Kd.R_below (rA HO363.out) hb)
    have n1_ := Aside0.mk (Kd.R_lower ho25 (below_size bA))
    have n2_ := Aside0.mk (blk_below (g:=gb359) (o:=.cells #[.slice A0_0 l0_0.length c0_0,.int .i64 a0_1] 25 (0,0)) (kA BK359.out) hb)
    have n3_ := Aside0.mk (blk_below (g:=gb360) (o:=.cells #[.string a2] 9 (0,0)) (kA BK360.out) hb)
    have n4_ := Aside0.mk (below_step bA hb)
    clear HO363
    clear BK359
    clear BK360
    clear HB
    have HO363 := n0_
    have HO369 := n1_
    have BK359 := n2_
    have BK360 := n3_
    have HB := n4_
    clear n0_ n1_ n2_ n3_ n4_
    clear hb ho25
    obtain ⟨Ao26,co26,eo26⟩ := Kd.R_slice HO369.out
    (first | subst eo26 | (injection eo26 with f1_ f2_ f3_; have f4_ := f1_.symm; have f5_ := f3_.symm; clear f1_ f2_ f3_; subst f4_; subst f5_))
    refine hK.out _ _ ⟨(blk_cell BK360.out 0).trans rfl,(blk_cell BK359.out 0).trans rfl,(blk_cell BK359.out 1).trans rfl⟩ (fun hHeld => ?_)
    clear hK K
    refine norm_ (a':=?_) ?_ ?_
    rotate_left
    ·show Act.put _ (some 28) _ = _
     simp only [Act.put,setIfInBounds_toArray,set_cons_zero,set_cons_succ,i64_w,i32_w]
     rfl
    refine one_ (i:=17) (N:=some 29) (bm 19 262143) rfl rfl (one_of HT_.out (by kernel_rfl)) (by decide) (fun K hK => ?_)
    refine goes_ Try.func23 (by kernel_rfl) rfl #[.slice Ao26 y367.length co26] (by rfl) rfl rfl mA ?_
    with_reducible refine (impl_first.calls k _ _ y367 t370 _ ?side1 ?side2 A8.out).mono ?_
    (case side1 => repeat (first | exact (Kd.R_reads' HO369.out).2.2 | (with_reducible refine Kd.C_alloc ?_ _) | (with_reducible refine Kd.C_drewN ?_ _) | (with_reducible refine Kd.C_drew ?_)))
    (case side2 => exact (Kd.R_reads' HO369.out).2.1)
    rintro e w' ⟨rfl,⟨nd,rfl⟩⟩
    refine ⟨_,rfl,?_⟩
    refine hK.out _ _ ⟨(blk_cell BK360.out 0).trans rfl,(blk_cell BK359.out 0).trans rfl,(blk_cell BK359.out 1).trans rfl⟩ (fun hHeld => ?_)
    clear hK K
    refine norm_ (a':=?_) ?_ ?_
    rotate_left
    ·show Act.put _ (some 29) _ = _
     simp only [Act.put,setIfInBounds_toArray,set_cons_zero,set_cons_succ,i64_w,i32_w]
     rfl
    refine pV_ 18 10 (bm 19 524287) HT_.out ?_
    refine done_ (done_of HT_.out (by kernel_rfl)) ?_
    have hnb27 := NB359_360.out
    have hnc27 := NB360_359.out
    have hcz28_0 : w24.cell? ⟨gb359,0,none⟩ = some (.slice A0_0 l0_0.length c0_0) := (blk_cell BK359.out 0).trans rfl
    have hcz28_1 : w24.cell? ⟨gb359,1,none⟩ = some (.int .i64 a0_1) := (blk_cell BK359.out 1).trans rfl
    have hfz28_0 := blk_frozen BK359.out 0
    have hfz28_1 := blk_frozen BK359.out 1
    try go_wp2_with (first | ((with_reducible refine gate_callee (f:=27) rfl ?_); refine goesL_ (some 35) rfl rfl Try.func27 (by kernel_rfl) rfl #[.agg #[.slice A0_0 l0_0.length c0_0,.int .i64 a0_1],.string a1] rfl mA ?_; (with_reducible refine (impl_Store_keys.calls k _ _ l0_0 a0_1 a1 t371 _ ?side1 ?side2 A10.out).mono ?_); (case side1 => repeat (first | exact (Kd.C_below HR0_0.out bA) | (with_reducible refine Kd.C_alloc ?_ _) | (with_reducible refine Kd.C_drewN ?_ _) | (with_reducible refine Kd.C_drew ?_))); (case side2 => exact HC0_0.out); rintro e w29 ⟨v372,rfl,ho0,hb⟩; refine ⟨_,rfl,?_⟩; have n0_ := Aside0.mk (Kd.R_elder' (rA HO363.out) (Kd.R_base ho0) hb); have n1_ := Aside0.mk (Kd.R_below (rA HO369.out) hb); have n2_ := Aside0.mk (Kd.R_lower (Kd.R_newB (Kd.R_new' ho0 (Kd.R_lt (rA HO363.out))) (g:=gb360) (o:=.cells #[.string a2] 9 (0,0)) (kA BK360.out)) (below_size bA)); have n3_ := Aside0.mk (blk_below (g:=gb359) (o:=.cells #[.slice A0_0 l0_0.length c0_0,.int .i64 a0_1] 25 (0,0)) (kA BK359.out) hb); have n4_ := Aside0.mk (blk_below (g:=gb360) (o:=.cells #[.string a2] 9 (0,0)) (kA BK360.out) hb); have n5_ := Aside0.mk (below_step bA hb); clear HO363; clear HO369; clear BK359; clear BK360; clear HB; have HO363 := n0_; have HO369 := n1_; have HO373 := n2_; have BK359 := n3_; have BK360 := n4_; have HB := n5_; clear n0_ n1_ n2_ n3_ n4_ n5_; (try clear hb); (try clear hb2); (try clear hk); (try clear hi); (try clear ho0); obtain ⟨Ao30,co30,eo30⟩ := Kd.R_slice HO373.out; subst eo30) | ((with_reducible refine gate_callee (f:=26) rfl ?_); refine goesL_ (some 37) rfl rfl Try.func26 (by kernel_rfl) rfl #[.slice Ao30 t371.length co30,.func (.func 28) #[] #[.pointer (some ⟨gb360,0,none⟩)]] rfl mA ?_; (with_reducible refine (slices_DeleteFunc_string_string.calls a2 gb360 _ t371 t374 w _ ?sideB ?sideR ?sideK A11.out).mono ?_); (case sideB => exact bA); (case sideR => (with_reducible repeat (first | apply Kd.R_alloc | apply Kd.R_drewN | apply Kd.R_drew)); exact Kd.R_mono HO373.out (fun _ hk => hk.2)); (case sideK => (with_reducible repeat (first | refine blk_drewN ?_ _ | refine blk_drew ?_ | refine blk_alloc ?_ _)); exact BK360.out); rintro e w31 ⟨v375,rfl,ho0,hb,hv0,hk0⟩; refine ⟨_,rfl,?_⟩; have HO376 := Aside0.mk ho0; have n9_ := Aside0.mk hb; clear HB hv0 hk0; have HB := n9_; clear n9_; (try clear hb); (try clear hb2); (try clear hk); (try clear hi); (try clear ho0); obtain ⟨Ao32,co32,eo32⟩ := Kd.R_slice HO376.out; subst eo32; have q33 : ((ji12) : Int) ≤ ((t374.length : Int) : Int) := of_decide_eq_true (by first | (with_reducible assumption) | assumption); obtain ⟨i033,hi033,_,hsz33,_⟩ := info_parts info9; have hroom33 : t374.length ≤ co32 := (Kd.R_reads' HO376.out).2.1; have hC33 : Kd.C Kd.string _ Ao32 t374.length t374 := (Kd.R_reads' HO376.out).2.2; have hcut33 := cut_to (P:=Try.prog) 27 9 .i64 Try.underlying27 hi033 Ao32 t374.length co32 (ji12) (of_decide_eq_true (by first | (with_reducible assumption) | assumption)) q33 hroom33; have hr33 := Kd.C_take (m:=((ji12) : Int).toNat) hC33 (by omega); have hy33 : y377.length = ((ji12) : Int).toNat := (by rw [Ny377.out,List.length_take]; omega); rw [← Ny377.out] at hr33; rw [← hy33] at hcut33; have HR380 := Aside0.mk hr33; have HC380 := Aside0.mk (show y377.length ≤ co32 from by omega); clear hr33 hC33 hroom33 hi033 hsz33; have KY33 := Aside0.mk hy33; clear hy33; have KL33 := Aside0.mk (show ((ji12) : Int).toNat ≤ t374.length from by omega); replace q33 := eq_true q33) | ((with_reducible refine gate_callee (f:=29) rfl ?_); refine goesL_ (some 44) rfl rfl Try.func29 (by kernel_rfl) rfl #[.slice Ao32 y377.length co32] rfl mA ?_; (with_reducible refine (slices_Clone_string_string.calls _ _ y377 t381 _ ?side1 ?side2 A15.out).mono ?_); (case side1 => repeat (first | exact (by repeat (first | (with_reducible exact HR380.out) | (with_reducible refine Kd.C_alloc ?_ _) | (with_reducible refine Kd.C_drewN ?_ _) | (with_reducible refine Kd.C_drew ?_) | exact HR380.out)) | (with_reducible refine Kd.C_alloc ?_ _) | (with_reducible refine Kd.C_drewN ?_ _) | (with_reducible refine Kd.C_drew ?_))); (case side2 => exact HC380.out); rintro e w34 ⟨v382,rfl,ho0,hb⟩; refine ⟨_,rfl,?_⟩; have n3_ := Aside0.mk (Kd.R_elder' (rA HO376.out) (Kd.R_base ho0) hb); have n4_ := Aside0.mk (Kd.R_lower ho0 (below_size bA)); have n7_ := Aside0.mk (Kd.C_below (by repeat (first | (with_reducible exact HR380.out) | (with_reducible refine Kd.C_alloc ?_ _) | (with_reducible refine Kd.C_drewN ?_ _) | (with_reducible refine Kd.C_drew ?_) | exact HR380.out)) hb); have n8_ := Aside0.mk (below_step bA hb); clear HO376; clear HR380; clear HB; have HO376 := n3_; have HO383 := n4_; have HR380 := n7_; have HB := n8_; clear n3_ n4_ n7_ n8_; (try clear hb); (try clear hb2); (try clear hk); (try clear hi); (try clear ho0)))
    go_ret2
    exact ⟨_,by first | rfl | (simp [errW_none,errW_some] <;> rfl) | (simp only [← hji12]; first | rfl | (simp [errW_none,errW_some] <;> rfl)) | (simp [*,errW_none,errW_some] <;> rfl),by (with_reducible repeat (first | apply Kd.R_alloc | apply Kd.R_drewN | apply Kd.R_drew)); exact Kd.R_mono HO383.out (fun _ hk => trivial),bA⟩
   ·rw [if_neg c14] at H
    exact absurd H (by simp)
  ·rw [if_neg c13] at H
   exact absurd H (by simp)
 ·rw [if_neg c9] at H
  have c9b0 : (t370 == 0) = false := beq_eq_false_iff_ne.mpr c9
  have c9b1 : (t370 != 0) = true := bne_iff_ne.mpr c9
  simp only [Option.some.injEq,Prod.mk.injEq] at H
  obtain ⟨rfl,rfl⟩ := H
  go_enter Try.func8,Try.ntmps8
  try go_wp2_with (first | ((with_reducible refine gate_dst (N:=4) rfl ?_); refine box_event ?hg (N:=4) ?hd (cs := #[.slice A0_0 l0_0.length c0_0,.int .i64 a0_1]) (t:=25) ?hr ?_; (case hd => rfl); (case hg => rfl); (case hr => first | (go_simp; done) | (go_simp; rfl)); intro gb359 hg w35 hbox hb; have n0_ := Aside0.mk (below_step bA hb); have n1_ := Aside0.mk (hbox); have n2_ := Aside0.mk ((by rw [hg]; exact (below_size bA) : w.heap.size ≤ gb359)); have n3_ := Aside0.mk ((by rw [hg]; exact (below_size bA) : w.heap.size ≤ gb359)); clear HB; have HB := n0_; have BK359 := n1_; have GW359 := n2_; have GE359 := n3_; clear n0_ n1_ n2_ n3_; clear hb hbox hg) | ((with_reducible refine gate_dst (N:=6) rfl ?_); refine box_event ?hg (N:=6) ?hd (cs := #[.string a2]) (t:=9) ?hr ?_; (case hd => rfl); (case hg => rfl); (case hr => first | (go_simp; done) | (go_simp; rfl)); intro gb360 hg w36 hbox hb; have n0_ := Aside0.mk (blk_below (g:=gb359) (o:=.cells #[.slice A0_0 l0_0.length c0_0,.int .i64 a0_1] 25 (0,0)) (kA BK359.out) hb); have n1_ := Aside0.mk (below_step bA hb); have n2_ := Aside0.mk (hbox); have n3_ := Aside0.mk ((by rw [hg]; exact (below_size bA) : w.heap.size ≤ gb360)); have n4_ := Aside0.mk ((by rw [hg]; exact (below_size bA) : w.heap.size ≤ gb360)); have n5_ := Aside0.mk ((by rw [hg]; exact Nat.ne_of_lt (blk_lt (g:=gb359) (o:=.cells #[.slice A0_0 l0_0.length c0_0,.int .i64 a0_1] 25 (0,0)) (kA BK359.out)) : gb359 ≠ gb360)); have n6_ := Aside0.mk ((by rw [hg]; exact Nat.ne_of_gt (blk_lt (g:=gb359) (o:=.cells #[.slice A0_0 l0_0.length c0_0,.int .i64 a0_1] 25 (0,0)) (kA BK359.out)) : gb360 ≠ gb359)); clear BK359; clear HB; have BK359 := n0_; have HB := n1_; have BK360 := n2_; have GW360 := n3_; have GE360 := n4_; have NB359_360 := n5_; have NB360_359 := n6_; clear n0_ n1_ n2_ n3_ n4_ n5_ n6_; clear hb hbox hg))
  have n0_ := Aside0.mk (blk_drew BK359.out)
  have n1_ := Aside0.mk (blk_drew BK360.out)
  have n2_ := Aside0.mk (below_drew1 HB.out)
  clear BK359
  clear BK360
  clear HB
  have BK359 := n0_
  have BK360 := n1_
  have HB := n2_
  clear n0_ n1_ n2_
  refine start_ (n:=19) (S:=fun w' => w'.cell? ⟨gb360,0,none⟩ = some (.string a2) ∧ w'.cell? ⟨gb359,0,none⟩ = some (.slice A0_0 l0_0.length c0_0) ∧ w'.cell? ⟨gb359,1,none⟩ = some (.int .i64 a0_1)) (ds := []) (bm 19 0) (by kernel_rfl) rfl rfl ⟨(blk_cell BK360.out 0).trans rfl,(blk_cell BK359.out 0).trans rfl,(blk_cell BK359.out 1).trans rfl⟩ (fun hHeld => ?_); refine with_tabW impl_ListKeys.tab1 impl_ListKeys.bits1 (fun HT_ HW_ => ?_)
  generalize w36.drew = w37 at BK359 BK360 HB hHeld ⊢
  refine pV_ 0 12 (bm 19 1) HT_.out ?_
  refine pV_ 5 17 (bm 19 33) HT_.out ?_
  refine pV_ 10 22 (bm 19 1057) HT_.out ?_
  refine pV_ 11 23 (bm 19 3105) HT_.out ?_
  refine pV_ 15 27 (bm 19 35873) HT_.out ?_
  refine take_ (i:=1) (N:=some 13) (v:=?_) (a':=?_) (bm 19 35875) rfl rfl (take_ofW HT_.out HW_.out (by kernel_rfl)) (fun _ _ _ h => h) (Or.inl ⟨by rfl,?_⟩) hHeld ?_ ?_
  rotate_left
  ·rintro w' ⟨s0,s1,s2⟩
   go_simp
   with_reducible rfl
  rotate_left
  ·simp only [Act.put,setIfInBounds_toArray,set_cons_zero,set_cons_succ,i64_w,i32_w]
   rfl
  refine take_ (i:=6) (N:=some 18) (v:=?_) (a':=?_) (bm 19 35939) rfl rfl (take_ofW HT_.out HW_.out (by kernel_rfl)) (fun _ _ _ h => h) (Or.inl ⟨by rfl,?_⟩) hHeld ?_ ?_
  rotate_left
  ·rintro w' ⟨s0,s1,s2⟩
   go_simp
   with_reducible rfl
  rotate_left
  ·simp only [Act.put,setIfInBounds_toArray,set_cons_zero,set_cons_succ,i64_w,i32_w]
   rfl
  refine one_ (i:=2) (N:=some 14) (bm 19 35943) rfl rfl (one_of HT_.out (by kernel_rfl)) (by decide) (fun K hK => ?_)
  refine Kd.R_lit_step Kd.string _ 9 ?hg (N:=14) ?hd (xs := ([a1,a2] : List ByteArray)) (inner := [.string a1,.string a2]) (ok := fun _ => True) (okp := fun _ => True) ?hr ?hp (fun _ hk => hk) trivial (Below.refl _ _) (Nat.le_refl _) (by simp) ?_; (case hd => rfl); (case hg => rfl); (case hr => first | (go_simp; done) | (go_simp; rfl)); (case hp => exact (Reps.one (show Kd.M Kd.string _ _ _ a1 [.string a1] from rfl) (Reps.one (show Kd.M Kd.string _ _ _ a2 [.string a2] from rfl) (Reps.none _ _))))
  intro v362 w38 ho39 hb hg_ hnew_
  clear hg_ hnew_
  (first | rw [← Ny361.out] at ho39 | (simp only [Int.reduceToNat] at ho39; rw [← Ny361.out] at ho39))
  have n0_ := Aside0.mk (Kd.R_lower (Kd.R_newB ho39 (g:=gb360) (o:=.cells #[.string a2] 9 (0,0)) (kA BK360.out)) (below_size bA))
  have n1_ := Aside0.mk (blk_below (g:=gb359) (o:=.cells #[.slice A0_0 l0_0.length c0_0,.int .i64 a0_1] 25 (0,0)) (kA BK359.out) hb)
  have n2_ := Aside0.mk (blk_below (g:=gb360) (o:=.cells #[.string a2] 9 (0,0)) (kA BK360.out) hb)
  have n3_ := Aside0.mk (below_step bA hb)
  clear BK359
  clear BK360
  clear HB
  have HO363 := n0_
  have BK359 := n1_
  have BK360 := n2_
  have HB := n3_
  clear n0_ n1_ n2_ n3_
  clear hb ho39
  obtain ⟨Ao40,co40,eo40⟩ := Kd.R_slice HO363.out
  (first | subst eo40 | (injection eo40 with f1_ f2_ f3_; have f4_ := f1_.symm; have f5_ := f3_.symm; clear f1_ f2_ f3_; subst f4_; subst f5_))
  refine hK.out _ _ ⟨(blk_cell BK360.out 0).trans rfl,(blk_cell BK359.out 0).trans rfl,(blk_cell BK359.out 1).trans rfl⟩ (fun hHeld => ?_)
  clear hK K
  refine norm_ (a':=?_) ?_ ?_
  rotate_left
  ·show Act.put _ (some 14) _ = _
   simp only [Act.put,setIfInBounds_toArray,set_cons_zero,set_cons_succ,i64_w,i32_w]
   rfl
  refine one_ (i:=3) (N:=some 15) (bm 19 35951) rfl rfl (one_of HT_.out (by kernel_rfl)) (by decide) (fun K hK => ?_)
  refine goes_ Try.func24 (by kernel_rfl) rfl #[.slice Ao40 y361.length co40] (by rfl) rfl rfl mA ?_
  with_reducible refine (impl_isLong.calls _ _ y361 t364 _ ?side1 ?side2 A5.out).mono ?_
  (case side1 => repeat (first | exact (Kd.R_reads' HO363.out).2.2 | (with_reducible refine Kd.C_alloc ?_ _) | (with_reducible refine Kd.C_drewN ?_ _) | (with_reducible refine Kd.C_drew ?_)))
  (case side2 => exact (Kd.R_reads' HO363.out).2.1)
  rintro e w41 ⟨rfl,hb⟩
  refine ⟨_,rfl,?_⟩
  have n0_ := Aside0.mk (Kd.R_below (rA HO363.out) hb)
  have n1_ := Aside0.mk (blk_below (g:=gb359) (o:=.cells #[.slice A0_0 l0_0.length c0_0,.int .i64 a0_1] 25 (0,0)) (kA BK359.out) hb)
  have n2_ := Aside0.mk (blk_below (g:=gb360) (o:=.cells #[.string a2] 9 (0,0)) (kA BK360.out) hb)
  have n3_ := Aside0.mk (below_step bA hb)
  clear HO363
  clear BK359
  clear BK360
  clear HB
  have HO363 := n0_
  have BK359 := n1_
  have BK360 := n2_
  have HB := n3_
  clear n0_ n1_ n2_ n3_
  (try clear hb)
  (try clear hb2)
  (try clear hk)
  (try clear hi)
  refine hK.out _ _ ⟨(blk_cell BK360.out 0).trans rfl,(blk_cell BK359.out 0).trans rfl,(blk_cell BK359.out 1).trans rfl⟩ (fun hHeld => ?_)
  clear hK K
  refine norm_ (a':=?_) ?_ ?_
  rotate_left
  ·show Act.put _ (some 15) _ = _
   simp only [Act.put,setIfInBounds_toArray,set_cons_zero,set_cons_succ,i64_w,i32_w]
   rfl
  refine pV_ 4 16 (bm 19 35967) HT_.out ?_
  refine one_ (i:=7) (N:=some 19) (bm 19 36095) rfl rfl (one_of HT_.out (by kernel_rfl)) (by decide) (fun K hK => ?_)
  refine goes_ Try.func17 (by kernel_rfl) rfl #[.agg #[.slice A0_0 l0_0.length c0_0,.int .i64 a0_1]] (by rfl) rfl rfl mA ?_
  with_reducible refine (impl_StoreOK.calls k _ _ l0_0 a0_1 t365 _ ?side1 ?side2 A6.out).mono ?_
  (case side1 => repeat (first | exact (Kd.C_below HR0_0.out HB.out) | (with_reducible refine Kd.C_alloc ?_ _) | (with_reducible refine Kd.C_drewN ?_ _) | (with_reducible refine Kd.C_drew ?_)))
  (case side2 => exact HC0_0.out)
  rintro e w42 ⟨rfl,hb⟩
  refine ⟨_,rfl,?_⟩
  have n0_ := Aside0.mk (Kd.R_below (rA HO363.out) hb)
  have n1_ := Aside0.mk (blk_below (g:=gb359) (o:=.cells #[.slice A0_0 l0_0.length c0_0,.int .i64 a0_1] 25 (0,0)) (kA BK359.out) hb)
  have n2_ := Aside0.mk (blk_below (g:=gb360) (o:=.cells #[.string a2] 9 (0,0)) (kA BK360.out) hb)
  have n3_ := Aside0.mk (below_step bA hb)
  clear HO363
  clear BK359
  clear BK360
  clear HB
  have HO363 := n0_
  have BK359 := n1_
  have BK360 := n2_
  have HB := n3_
  clear n0_ n1_ n2_ n3_
  (try clear hb)
  (try clear hb2)
  (try clear hk)
  (try clear hi)
  refine hK.out _ _ ⟨(blk_cell BK360.out 0).trans rfl,(blk_cell BK359.out 0).trans rfl,(blk_cell BK359.out 1).trans rfl⟩ (fun hHeld => ?_)
  clear hK K
  refine norm_ (a':=?_) ?_ ?_
  rotate_left
  ·show Act.put _ (some 19) _ = _
   simp only [Act.put,setIfInBounds_toArray,set_cons_zero,set_cons_succ,i64_w,i32_w]
   rfl
  refine pV_ 8 20 (bm 19 36351) HT_.out ?_
  refine pV_ 9 21 (bm 19 36863) HT_.out ?_
  refine one_ (i:=12) (N:=some 24) (bm 19 40959) rfl rfl (one_of HT_.out (by kernel_rfl)) (by decide) (fun K hK => ?_)
  refine goes_ Try.func25 (by kernel_rfl) rfl #[.int .i64 a3,.int .i64 0,.int .i64 300] (by rfl) rfl rfl mA ?_
  with_reducible refine (impl_within.calls a3 0 300 t366 _ A7.out).mono ?_
  rintro e w' ⟨rfl,⟨nd,rfl⟩⟩
  refine ⟨_,rfl,?_⟩
  refine hK.out _ _ ⟨(blk_cell BK360.out 0).trans rfl,(blk_cell BK359.out 0).trans rfl,(blk_cell BK359.out 1).trans rfl⟩ (fun hHeld => ?_)
  clear hK K
  refine norm_ (a':=?_) ?_ ?_
  rotate_left
  ·show Act.put _ (some 24) _ = _
   simp only [Act.put,setIfInBounds_toArray,set_cons_zero,set_cons_succ,i64_w,i32_w]
   rfl
  refine pV_ 13 25 (bm 19 49151) HT_.out ?_
  refine pV_ 14 26 (bm 19 65535) HT_.out ?_
  refine one_ (i:=16) (N:=some 28) (bm 19 131071) rfl rfl (one_of HT_.out (by kernel_rfl)) (by decide) (fun K hK => ?_)
  refine Kd.R_lit_step kAny _ 20 ?hg (N:=28) ?hd (xs := ([anyB t364,anyI 2,anyB (!t365),anyI 1,anyB (!t366),anyI 4] : List AnyV)) (inner := [.iface 4 (.bool t364),.iface 3 (.int .i64 2),.iface 4 (.bool (!t365)),.iface 3 (.int .i64 1),.iface 4 (.bool (!t366)),.iface 3 (.int .i64 4)]) (ok := fun _ => True) (okp := fun _ => True) ?hr ?hp (fun _ hk => hk) trivial (Below.refl _ _) (Nat.le_refl _) (by simp) ?_; (case hd => rfl); (case hg => rfl); (case hr => first | (go_simp; done) | (go_simp; rfl)); (case hp => exact (Reps.one (show Kd.M kAny _ _ _ (anyB t364) [.iface 4 (.bool t364)] from rfl) (Reps.one (show Kd.M kAny _ _ _ (anyI 2) [.iface 3 (.int .i64 2)] from rfl) (Reps.one (show Kd.M kAny _ _ _ (anyB (!t365)) [.iface 4 (.bool (!t365))] from rfl) (Reps.one (show Kd.M kAny _ _ _ (anyI 1) [.iface 3 (.int .i64 1)] from rfl) (Reps.one (show Kd.M kAny _ _ _ (anyB (!t366)) [.iface 4 (.bool (!t366))] from rfl) (Reps.one (show Kd.M kAny _ _ _ (anyI 4) [.iface 3 (.int .i64 4)] from rfl) (Reps.none _ _))))))))
  intro v368 w43 ho44 hb hg_ hnew_
  clear hg_ hnew_
  (first | rw [← Ny367.out] at ho44 | (simp only [Int.reduceToNat] at ho44; rw [← Ny367.out] at ho44))
  have n0_ := Aside0.mk (Kd.R_below (rA HO363.out) hb)
  have n1_ := Aside0.mk (Kd.R_lower ho44 (below_size bA))
  have n2_ := Aside0.mk (blk_below (g:=gb359) (o:=.cells #[.slice A0_0 l0_0.length c0_0,.int .i64 a0_1] 25 (0,0)) (kA BK359.out) hb)
  have n3_ := Aside0.mk (blk_below (g:=gb360) (o:=.cells #[.string a2] 9 (0,0)) (kA BK360.out) hb)
  have n4_ := Aside0.mk (below_step bA hb)
  clear HO363
  clear BK359
  clear BK360
  clear HB
  have HO363 := n0_
  have HO369 := n1_
  have BK359 := n2_
  have BK360 := n3_
  have HB := n4_
  clear n0_ n1_ n2_ n3_ n4_
  clear hb ho44
  obtain ⟨Ao45,co45,eo45⟩ := Kd.R_slice HO369.out
  (first | subst eo45 | (injection eo45 with f1_ f2_ f3_; have f4_ := f1_.symm; have f5_ := f3_.symm; clear f1_ f2_ f3_; subst f4_; subst f5_))
  refine hK.out _ _ ⟨(blk_cell BK360.out 0).trans rfl,(blk_cell BK359.out 0).trans rfl,(blk_cell BK359.out 1).trans rfl⟩ (fun hHeld => ?_)
  clear hK K
  refine norm_ (a':=?_) ?_ ?_
  rotate_left
  ·show Act.put _ (some 28) _ = _
   simp only [Act.put,setIfInBounds_toArray,set_cons_zero,set_cons_succ,i64_w,i32_w]
   rfl
  refine one_ (i:=17) (N:=some 29) (bm 19 262143) rfl rfl (one_of HT_.out (by kernel_rfl)) (by decide) (fun K hK => ?_)
  refine goes_ Try.func23 (by kernel_rfl) rfl #[.slice Ao45 y367.length co45] (by rfl) rfl rfl mA ?_
  with_reducible refine (impl_first.calls k _ _ y367 t370 _ ?side1 ?side2 A8.out).mono ?_
  (case side1 => repeat (first | exact (Kd.R_reads' HO369.out).2.2 | (with_reducible refine Kd.C_alloc ?_ _) | (with_reducible refine Kd.C_drewN ?_ _) | (with_reducible refine Kd.C_drew ?_)))
  (case side2 => exact (Kd.R_reads' HO369.out).2.1)
  rintro e w' ⟨rfl,⟨nd,rfl⟩⟩
  refine ⟨_,rfl,?_⟩
  refine hK.out _ _ ⟨(blk_cell BK360.out 0).trans rfl,(blk_cell BK359.out 0).trans rfl,(blk_cell BK359.out 1).trans rfl⟩ (fun hHeld => ?_)
  clear hK K
  refine norm_ (a':=?_) ?_ ?_
  rotate_left
  ·show Act.put _ (some 29) _ = _
   simp only [Act.put,setIfInBounds_toArray,set_cons_zero,set_cons_succ,i64_w,i32_w]
   rfl
  refine pV_ 18 10 (bm 19 524287) HT_.out ?_
  refine done_ (done_of HT_.out (by kernel_rfl)) ?_
  try go_wp2
  go_ret2
  exact ⟨_,by first | rfl | (simp [errW_none,errW_some] <;> rfl) | (simp [*,errW_none,errW_some] <;> rfl),by first | exact Kd.R_nil _ _ _ _ _ | exact Kd.N_nil _ _ _ _ _ | exact Kd.V_nil _ _ _ _ _ | exact Kd.Q_nil _ _ _ _ _ | exact Kd.S_nil _ _ _ _ _,bA⟩

/-! ### spec_l01In: function 31 -/
def spec_l01In.f (a0 : Int) (a1 : Int) (a2 : Int) : Option (Bool) := if a1 ≤ a0 then (some (decide (a0 ≤ a2))) else (some false)
set_option maxHeartbeats 8000000 in
set_option maxRecDepth 100000 in
theorem spec_l01In.calls (a0 : Int) (a1 : Int) (a2 : Int) (r : Bool) (w : World) (h : spec_l01In.f a0 a1 a2 = some r) :
  Calls Try.prog 31 #[.int .i64 a0,.int .i64 a1,.int .i64 a2] w fun e w' => e = .returned (.bool r) ∧ Drawn0 w w' := by
 have H : (if a1 ≤ a0 then (some (decide (a0 ≤ a2))) else (some false)) = some r := h
 clear h
 by_cases c4 : a1 ≤ a0
 ·rw [if_pos c4] at H
  have c4b0 : decide (a1 ≤ a0) = true := decide_eq_true c4
  clear c4
  obtain rfl := Option.some.inj H
  go_enter Try.func31,Try.ntmps31
  go_wp2
  go_ret
  exact ⟨by first | rfl | (simp; done) | (simp [*]; done),by repeat (first | exact Drawn0.refl _ | apply Drawn0.step)⟩
 ·rw [if_neg c4] at H
  have c4b0 : decide (a1 ≤ a0) = false := decide_eq_false c4
  clear c4
  obtain rfl := Option.some.inj H
  go_enter Try.func31,Try.ntmps31
  go_wp2
  go_ret
  exact ⟨by first | rfl | (simp; done) | (simp [*]; done),by repeat (first | exact Drawn0.refl _ | apply Drawn0.step)⟩

/-! ### spec_l00Digit: function 73 -/
def spec_l00Digit.f (a0 : Int) : Option (Bool) := if a0 ≥ 48 then (some (decide (a0 ≤ 57))) else (some false)
set_option maxHeartbeats 8000000 in
set_option maxRecDepth 100000 in
theorem spec_l00Digit.calls (a0 : Int) (r : Bool) (w : World) (h : spec_l00Digit.f a0 = some r) :
  Calls Try.prog 73 #[.int .u8 a0] w fun e w' => e = .returned (.bool r) ∧ Drawn0 w w' := by
 have H : (if a0 ≥ 48 then (some (decide (a0 ≤ 57))) else (some false)) = some r := h
 clear h
 by_cases c2 : a0 ≥ 48
 ·rw [if_pos c2] at H
  have c2b0 : decide (48 ≤ a0) = true := decide_eq_true c2
  clear c2
  obtain rfl := Option.some.inj H
  go_enter Try.func73,Try.ntmps73
  go_wp2
  go_ret
  exact ⟨by first | rfl | (simp; done) | (simp [*]; done),by repeat (first | exact Drawn0.refl _ | apply Drawn0.step)⟩
 ·rw [if_neg c2] at H
  have c2b0 : decide (48 ≤ a0) = false := decide_eq_false c2
  clear c2
  obtain rfl := Option.some.inj H
  go_enter Try.func73,Try.ntmps73
  go_wp2
  go_ret
  exact ⟨by first | rfl | (simp; done) | (simp [*]; done),by repeat (first | exact Drawn0.refl _ | apply Drawn0.step)⟩

end Go.Proofs.Ytgkfemnfbkgeiaa.XFnList
