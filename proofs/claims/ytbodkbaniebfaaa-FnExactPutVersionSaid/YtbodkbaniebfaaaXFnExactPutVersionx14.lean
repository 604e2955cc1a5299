-- Printed by this session's own program wip/tools/xprint.py, which widens the kit's print. Not trusted: Lean checks it.
import Derived.Test.YtbodkbaniebfaaaXFnExactPutVersionx0
import Derived.Test.YtbodkbaniebfaaaXFnExactPutVersionx8
import Derived.Test.YtbodkbaniebfaaaXFnExactPutVersionx11
import Derived.Test.YtbodkbaniebfaaaXFnExactPutVersionx13
namespace Go.Proofs.Ytbodkbaniebfaaa.XFnExactPutVersion
open List (setIfInBounds_toArray set_cons_zero set_cons_succ)
open Go.RowKit Go.Proofs.YtbodkbaniebfaaaW.PrintWords Go.Proofs.YtbodkbaniebfaaaW.PrintLast Go.Proofs.YtbodkbaniebfaaaW.PrintMore
attribute [local go_sem] max2_int min2_int max_two min_two max_three min_three max_four min_four   -- for this text's walks alone
set_option linter.unusedVariables false
set_option linter.unusedSimpArgs false

/-! ### impl_PutVersion: function 22 -/
def impl_PutVersion.f (k : Nat) (l0_0 : List (S71)) (a0_1 : Int) (a1 : ByteArray) (a2 : Int) (a3 : ByteArray) : Option ((List (S71)) × Int × Int × Int) := (impl_isLong.f (([a1,a3] : List ByteArray))).bind fun t345 => ((impl_storeCode.f k l0_0 a0_1 a1).bind fun t346 => ((impl_first.f k (([anyB t345,anyI 2,anyB true,anyI t346] : List AnyV))).bind fun t350 => (if t350 = 0 then ((impl_Store_versionCode.f k l0_0 a0_1 a1 a2).bind fun t351 => (if t351 = 0 then ((impl_Store_put.f k l0_0 a0_1 a1 a3).bind fun bt352 => ((impl_Store_copied.f bt352.1 bt352.2.1).bind fun bt359 => (some (bt359.1,bt359.2,bt352.2.2.1,bt352.2.2.2)))) else ((impl_Store_copied.f l0_0 a0_1).bind fun bt363 => (some (bt363.1,bt363.2,0,t351))))) else (some (([] : List (S71)),0,0,t350)))))
theorem impl_PutVersion.mono : ∀ a0 a1 a2 a3 a4 k,LeO (impl_PutVersion.f k a0 a1 a2 a3 a4) (impl_PutVersion.f (k + 1) a0 a1 a2 a3 a4) := by
 intro a0 a1 a2 a3 a4 k
 unfold impl_PutVersion.f
 repeat' first
   | (with_reducible exact impl_Store_put.mono _ _ _ _ _)
   | (with_reducible exact impl_Store_versionCode.mono _ _ _ _ _)
   | (with_reducible exact impl_first.mono _ _)
   | (with_reducible exact impl_storeCode.mono _ _ _ _)
   | (with_reducible exact LeO.refl _)
   | (with_reducible exact LeO.none _)
   | (with_reducible refine LeO.ite ?_ ?_)
   | (with_reducible refine LeO.bind ?_ (fun _ => ?_))
   | exact impl_Store_put.mono _ _ _ _ _
   | exact impl_Store_versionCode.mono _ _ _ _ _
   | exact impl_first.mono _ _
   | exact impl_storeCode.mono _ _ _ _
   | exact LeO.none _
   | refine LeO.ite ?_ ?_
   | refine LeO.bind ?_ (fun _ => ?_)
def impl_PutVersion.T1 : Bool × List (List Nat × List Nat) := (true,[([],[]),([],[]),([0,1],[0,1]),([2],[2]),([3],[3]),([],[]),([],[]),([],[]),([],[]),([7,8,3],[7,8]),([9],[9]),([4,5,6,10],[4,5,6,10]),([11,9],[11]),([12,12,0,1,2,3,4,5,6,7,8,9,10,11,12],[12])])
def impl_PutVersion.B1 : List Nat := [0,0,3,7,15,0,0,0,0,399,911,2047,4095,8191]
theorem impl_PutVersion.tab1 : rtab .any (opsOf Try.f22 1) = impl_PutVersion.T1 := by kernel_rfl
theorem impl_PutVersion.bits1 : waitsOk impl_PutVersion.T1.2 impl_PutVersion.B1 = true := by kernel_rfl
set_option maxHeartbeats 8000000 in
set_option maxRecDepth 100000 in
theorem impl_PutVersion.calls (k : Nat) (A0_0 : Option Addr) (c0_0 : Nat) (l0_0 : List (S71)) (a0_1 : Int) (a1 : ByteArray) (a2 : Int) (a3 : ByteArray) (r1 : List (S71)) (r2 : Int) (r3 : Int) (r4 : Int) (w : World) (hr0_0 : Kd.C k71 w A0_0 l0_0.length l0_0) (hc0_0 : l0_0.length ≤ c0_0) (h : impl_PutVersion.f k l0_0 a0_1 a1 a2 a3 = some (r1,r2,r3,r4)) :
  Calls Try.prog 22 #[.agg #[.slice A0_0 l0_0.length c0_0,.int .i64 a0_1],.string a1,.int .i64 a2,.string a3] w fun e w' => ∃ v0_ : Value,e = .returned (.tuple #[.agg #[v0_,.int .i64 r2],.int .i64 r3,.int .i64 r4]) ∧ Kd.R k71 71 w' w.heap.size (fun _ => True) v0_ r1 ∧ Below w.heap.size w w' := by
 have hu28 := Try.underlying28
 have hua20 := Try.underlying20
 have HR0_0 := Aside0.mk hr0_0
 have HC0_0 := Aside0.mk hc0_0
 clear hr0_0 hc0_0
 have HB := Aside0.mk (Below.refl w.heap.size w)
 have H : ((impl_isLong.f (([a1,a3] : List ByteArray))).bind fun t345 => ((impl_storeCode.f k l0_0 a0_1 a1).bind fun t346 => ((impl_first.f k (([anyB t345,anyI 2,anyB true,anyI t346] : List AnyV))).bind fun t350 => (if t350 = 0 then ((impl_Store_versionCode.f k l0_0 a0_1 a1 a2).bind fun t351 => (if t351 = 0 then ((impl_Store_put.f k l0_0 a0_1 a1 a3).bind fun bt352 => ((impl_Store_copied.f bt352.1 bt352.2.1).bind fun bt359 => (some (bt359.1,bt359.2,bt352.2.2.1,bt352.2.2.2)))) else ((impl_Store_copied.f l0_0 a0_1).bind fun bt363 => (some (bt363.1,bt363.2,0,t351))))) else (some (([] : List (S71)),0,0,t350)))))) = some (r1,r2,r3,r4) := h
 clear h
 obtain ⟨y342,hy342⟩ : ∃ y_ : List ByteArray,y_ = (([a1,a3] : List ByteArray)) := ⟨_,rfl⟩
 replace H : ((impl_isLong.f y342).bind fun t345 => ((impl_storeCode.f k l0_0 a0_1 a1).bind fun t346 => ((impl_first.f k (([anyB t345,anyI 2,anyB true,anyI t346] : List AnyV))).bind fun t350 => (if t350 = 0 then ((impl_Store_versionCode.f k l0_0 a0_1 a1 a2).bind fun t351 => (if t351 = 0 then ((impl_Store_put.f k l0_0 a0_1 a1 a3).bind fun bt352 => ((impl_Store_copied.f bt352.1 bt352.2.1).bind fun bt359 => (some (bt359.1,bt359.2,bt352.2.2.1,bt352.2.2.2)))) else ((impl_Store_copied.f l0_0 a0_1).bind fun bt363 => (some (bt363.1,bt363.2,0,t351))))) else (some (([] : List (S71)),0,0,t350)))))) = some (r1,r2,r3,r4) := by first | (rw [hy342]; with_reducible exact H) | (have H2_ := (Option.bind_some _ _).symm.trans H; rw [hy342]; with_reducible exact H2_) | (have H2_ := (Option.bind_some _ _).symm.trans H; with_reducible exact H2_) | with_reducible exact H | (rw [hy342]; exact H) | exact H
 have Ny342 := Aside0.mk hy342
 clear hy342
 replace H := Option.bind_eq_some_iff.mp H
 obtain ⟨t345,A50,H⟩ := H
 try dsimp only at H
 have A5 := Aside0.mk A50
 clear A50
 replace H := Option.bind_eq_some_iff.mp H
 obtain ⟨t346,A60,H⟩ := H
 try dsimp only at H
 have A6 := Aside0.mk A60
 clear A60
 obtain ⟨y347,hy347⟩ : ∃ y_ : List AnyV,y_ = (([anyB t345,anyI 2,anyB true,anyI t346] : List AnyV)) := ⟨_,rfl⟩
 replace H : ((impl_first.f k y347).bind fun t350 => (if t350 = 0 then ((impl_Store_versionCode.f k l0_0 a0_1 a1 a2).bind fun t351 => (if t351 = 0 then ((impl_Store_put.f k l0_0 a0_1 a1 a3).bind fun bt352 => ((impl_Store_copied.f bt352.1 bt352.2.1).bind fun bt359 => (some (bt359.1,bt359.2,bt352.2.2.1,bt352.2.2.2)))) else ((impl_Store_copied.f l0_0 a0_1).bind fun bt363 => (some (bt363.1,bt363.2,0,t351))))) else (some (([] : List (S71)),0,0,t350)))) = some (r1,r2,r3,r4) := by first | (rw [hy347]; with_reducible exact H) | (have H2_ := (Option.bind_some _ _).symm.trans H; rw [hy347]; with_reducible exact H2_) | (have H2_ := (Option.bind_some _ _).symm.trans H; with_reducible exact H2_) | with_reducible exact H | (rw [hy347]; exact H) | exact H
 have Ny347 := Aside0.mk hy347
 clear hy347
 replace H := Option.bind_eq_some_iff.mp H
 obtain ⟨t350,A70,H⟩ := H
 try dsimp only at H
 have A7 := Aside0.mk A70
 clear A70
 by_cases c8 : t350 = 0
 ·rw [if_pos c8] at H
  have c8b0 : (t350 == 0) = true := beq_iff_eq.mpr c8
  have c8b1 : (t350 != 0) = false := bne_eq_false_iff_eq.mpr c8
  clear c8
  replace H := Option.bind_eq_some_iff.mp H
  obtain ⟨t351,A90,H⟩ := H
  try dsimp only at H
  have A9 := Aside0.mk A90
  clear A90
  by_cases c10 : t351 = 0
  ·rw [if_pos c10] at H
   have c10b0 : (t351 == 0) = true := beq_iff_eq.mpr c10
   have c10b1 : (t351 != 0) = false := bne_eq_false_iff_eq.mpr c10
   clear c10
   replace H := Option.bind_eq_some_iff.mp H
   obtain ⟨⟨t352,t355,t356,t357⟩,A110,H⟩ := H
   try dsimp only at H
   have A11 := Aside0.mk A110
   clear A110
   replace H := Option.bind_eq_some_iff.mp H
   obtain ⟨⟨t359,t362⟩,A120,H⟩ := H
   try dsimp only at H
   have A12 := Aside0.mk A120
   clear A120
   simp only [Option.some.injEq,Prod.mk.injEq] at H
   obtain ⟨rfl,rfl,rfl,rfl⟩ := H
   go_enter Try.func22,Try.ntmps22
   try go_wp2_with (first | ((with_reducible refine gate_dst (N:=4) rfl ?_); refine box_event ?hg (N:=4) ?hd (cs := #[.slice A0_0 l0_0.length c0_0,.int .i64 a0_1]) (t:=28) ?hr ?_; (case hd => rfl); (case hg => rfl); (case hr => first | (go_simp; done) | (go_simp; rfl)); intro gb340 hg w13 hbox hb; have n0_ := Aside0.mk (below_step bA hb); have n1_ := Aside0.mk (hbox); have n2_ := Aside0.mk ((by rw [hg]; exact (below_size bA) : w.heap.size ≤ gb340)); have n3_ := Aside0.mk ((by rw [hg]; exact (below_size bA) : w.heap.size ≤ gb340)); clear HB; have HB := n0_; have BK340 := n1_; have GW340 := n2_; have GE340 := n3_; clear n0_ n1_ n2_ n3_; clear hb hbox hg) | ((with_reducible refine gate_dst (N:=8) rfl ?_); refine box_event ?hg (N:=8) ?hd (cs := #[.slice none 0 0,.int .i64 0]) (t:=28) ?hr ?_; (case hd => rfl); (case hg => rfl); (case hr => first | (go_simp; done) | (go_simp; rfl)); intro gb341 hg w14 hbox hb; have n0_ := Aside0.mk (blk_below (g:=gb340) (o:=.cells #[.slice A0_0 l0_0.length c0_0,.int .i64 a0_1] 28 (0,0)) (kA BK340.out) hb); have n1_ := Aside0.mk (below_step bA hb); have n2_ := Aside0.mk (hbox); have n3_ := Aside0.mk ((by rw [hg]; exact (below_size bA) : w.heap.size ≤ gb341)); have n4_ := Aside0.mk ((by rw [hg]; exact (below_size bA) : w.heap.size ≤ gb341)); have n5_ := Aside0.mk ((by rw [hg]; exact Nat.ne_of_lt (blk_lt (g:=gb340) (o:=.cells #[.slice A0_0 l0_0.length c0_0,.int .i64 a0_1] 28 (0,0)) (kA BK340.out)) : gb340 ≠ gb341)); have n6_ := Aside0.mk ((by rw [hg]; exact Nat.ne_of_gt (blk_lt (g:=gb340) (o:=.cells #[.slice A0_0 l0_0.length c0_0,.int .i64 a0_1] 28 (0,0)) (kA BK340.out)) : gb341 ≠ gb340)); clear BK340; clear HB; have BK340 := n0_; have HB := n1_; have BK341 := n2_; have GW341 := n3_; have GE341 := n4_; have NB340_341 := n5_; have NB341_340 := n6_; clear n0_ n1_ n2_ n3_ n4_ n5_ n6_; clear hb hbox hg))
   have n0_ := Aside0.mk (blk_drew BK340.out)
   have n1_ := Aside0.mk (blk_drew BK341.out)
   have n2_ := Aside0.mk (below_drew1 HB.out)
   clear BK340
   clear BK341
   clear HB
   have BK340 := n0_
   have BK341 := n1_
   have HB := n2_
   clear n0_ n1_ n2_
   refine start_ (n:=14) (S:=fun w' => w'.cell? ⟨gb340,0,none⟩ = some (.slice A0_0 l0_0.length c0_0) ∧ w'.cell? ⟨gb340,1,none⟩ = some (.int .i64 a0_1)) (ds := []) (bm 14 0) (by kernel_rfl) rfl rfl ⟨(blk_cell BK340.out 0).trans rfl,(blk_cell BK340.out 1).trans rfl⟩ (fun hHeld => ?_); refine with_tabW impl_PutVersion.tab1 impl_PutVersion.bits1 (fun HT_ HW_ => ?_)
   generalize w14.drew = w15 at BK340 BK341 HB hHeld ⊢
   refine pV_ 0 16 (bm 14 1) HT_.out ?_
   refine pV_ 1 17 (bm 14 3) HT_.out ?_
   refine pV_ 5 21 (bm 14 35) HT_.out ?_
   refine pV_ 6 22 (bm 14 99) HT_.out ?_
   refine pV_ 8 24 (bm 14 355) HT_.out ?_
   refine take_ (i:=7) (N:=some 23) (v:=?_) (a':=?_) (bm 14 483) rfl rfl (take_ofW HT_.out HW_.out (by kernel_rfl)) (fun _ _ _ h => h) (Or.inl ⟨by rfl,?_⟩) hHeld ?_ ?_
   rotate_left
   ·rintro w' ⟨s0,s1⟩
    go_simp
    with_reducible rfl
   rotate_left
   ·simp only [Act.put,setIfInBounds_toArray,set_cons_zero,set_cons_succ,i64_w,i32_w]
    rfl
   refine one_ (i:=2) (N:=some 18) (bm 14 487) rfl rfl (one_of HT_.out (by kernel_rfl)) (by decide) (fun K hK => ?_)
   refine Kd.R_lit_step Kd.string _ 9 ?hg (N:=18) ?hd (xs := ([a1,a3] : List ByteArray)) (inner := [.string a1,.string a3]) (ok := fun _ => True) (okp := fun _ => True) ?hr ?hp (fun _ hk => hk) trivial (Below.refl _ _) (Nat.le_refl _) (by simp) ?_; (case hd => rfl); (case hg => rfl); (case hr => first | (go_simp; done) | (go_simp; rfl)); (case hp => exact (Reps.one (show Kd.M Kd.string _ _ _ a1 [.string a1] from rfl) (Reps.one (show Kd.M Kd.string _ _ _ a3 [.string a3] from rfl) (Reps.none _ _))))
   intro v343 w16 ho17 hb hg_ hnew_
   clear hg_ hnew_
   (first | rw [← Ny342.out] at ho17 | (simp only [Int.reduceToNat] at ho17; rw [← Ny342.out] at ho17))
   have n0_ := Aside0.mk (Kd.R_lower ho17 (below_size bA))
   have n1_ := Aside0.mk (blk_below (g:=gb340) (o:=.cells #[.slice A0_0 l0_0.length c0_0,.int .i64 a0_1] 28 (0,0)) (kA BK340.out) hb)
   have n2_ := Aside0.mk (blk_below (g:=gb341) (o:=.cells #[.slice none 0 0,.int .i64 0] 28 (0,0)) (kA BK341.out) hb)
   have n3_ := Aside0.mk (below_step bA hb)
   clear BK340
   clear BK341
   clear HB
   have HO344 := n0_
   have BK340 := n1_
   have BK341 := n2_
   have HB := n3_
   clear n0_ n1_ n2_ n3_
   clear hb ho17
   obtain ⟨Ao18,co18,eo18⟩ := Kd.R_slice HO344.out
   (first | subst eo18 | (injection eo18 with f1_ f2_ f3_; have f4_ := f1_.symm; have f5_ := f3_.symm; clear f1_ f2_ f3_; subst f4_; subst f5_))
   refine hK.out _ _ ⟨(blk_cell BK340.out 0).trans rfl,(blk_cell BK340.out 1).trans rfl⟩ (fun hHeld => ?_)
   clear hK K
   refine norm_ (a':=?_) ?_ ?_
   rotate_left
   ·show Act.put _ (some 18) _ = _
    simp only [Act.put,setIfInBounds_toArray,set_cons_zero,set_cons_succ,i64_w,i32_w]
    rfl
   refine one_ (i:=3) (N:=some 19) (bm 14 495) rfl rfl (one_of HT_.out (by kernel_rfl)) (by decide) (fun K hK => ?_)
   refine goes_ Try.func29 (by kernel_rfl) rfl #[.slice Ao18 y342.length co18] (by rfl) rfl rfl mA ?_
   with_reducible refine (impl_isLong.calls _ _ y342 t345 _ ?side1 ?side2 A5.out).mono ?_
   (case side1 => repeat (first | exact (Kd.R_reads' HO344.out).2.2 | (with_reducible refine Kd.C_alloc ?_ _) | (with_reducible refine Kd.C_drewN ?_ _) | (with_reducible refine Kd.C_drew ?_)))
   (case side2 => exact (Kd.R_reads' HO344.out).2.1)
   rintro e w19 ⟨rfl,hb⟩
   refine ⟨_,rfl,?_⟩
   have n0_ := Aside0.mk (Kd.R_below (rA HO344.out) hb)
   have n1_ := Aside0.mk (blk_below (g:=gb340) (o:=.cells #[.slice A0_0 l0_0.length c0_0,.int .i64 a0_1] 28 (0,0)) (kA BK340.out) hb)
   have n2_ := Aside0.mk (blk_below (g:=gb341) (o:=.cells #[.slice none 0 0,.int .i64 0] 28 (0,0)) (kA BK341.out) hb)
   have n3_ := Aside0.mk (below_step bA hb)
   clear HO344
   clear BK340
   clear BK341
   clear HB
   have HO344 := n0_
   have BK340 := n1_
   have BK341 := n2_
   have HB := n3_
   clear n0_ n1_ n2_ n3_
   (try clear hb)
   (try clear hb2)
   (try clear hk)
   (try clear hi)
   refine hK.out _ _ ⟨(blk_cell BK340.out 0).trans rfl,(blk_cell BK340.out 1).trans rfl⟩ (fun hHeld => ?_)
   clear hK K
   refine norm_ (a':=?_) ?_ ?_
   rotate_left
   ·show Act.put _ (some 19) _ = _
    simp only [Act.put,setIfInBounds_toArray,set_cons_zero,set_cons_succ,i64_w,i32_w]
    rfl
   refine pV_ 4 20 (bm 14 511) HT_.out ?_
   refine one_ (i:=9) (N:=some 25) (bm 14 1023) rfl rfl (one_of HT_.out (by kernel_rfl)) (by decide) (fun K hK => ?_)
   refine goes_ Try.func30 (by kernel_rfl) rfl #[.agg #[.slice A0_0 l0_0.length c0_0,.int .i64 a0_1],.string a1] (by rfl) rfl rfl mA ?_
   with_reducible refine (impl_storeCode.calls k _ _ l0_0 a0_1 a1 t346 _ ?side1 ?side2 A6.out).mono ?_
   (case side1 => repeat (first | exact (Kd.C_below HR0_0.out HB.out) | (with_reducible refine Kd.C_alloc ?_ _) | (with_reducible refine Kd.C_drewN ?_ _) | (with_reducible refine Kd.C_drew ?_)))
   (case side2 => exact HC0_0.out)
   rintro e w20 ⟨rfl,hb⟩
   refine ⟨_,rfl,?_⟩
   have n0_ := Aside0.mk (Kd.R_below (rA HO344.out) hb)
   have n1_ := Aside0.mk (blk_below (g:=gb340) (o:=.cells #[.slice A0_0 l0_0.length c0_0,.int .i64 a0_1] 28 (0,0)) (kA BK340.out) hb)
   have n2_ := Aside0.mk (blk_below (g:=gb341) (o:=.cells #[.slice none 0 0,.int .i64 0] 28 (0,0)) (kA BK341.out) hb)
   have n3_ := Aside0.mk (below_step bA hb)
   clear HO344
   clear BK340
   clear BK341
   clear HB
   have HO344 := n0_
   have BK340 := n1_
   have BK341 := n2_
   have HB := n3_
   clear n0_ n1_ n2_ n3_
   (try clear hb)
   (try clear hb2)
   (try clear hk)
   (try clear hi)
   refine hK.out _ _ ⟨(blk_cell BK340.out 0).trans rfl,(blk_cell BK340.out 1).trans rfl⟩ (fun hHeld => ?_)
   clear hK K
   refine norm_ (a':=?_) ?_ ?_
   rotate_left
   ·show Act.put _ (some 25) _ = _
    simp only [Act.put,setIfInBounds_toArray,set_cons_zero,set_cons_succ,i64_w,i32_w]
    rfl
   refine pV_ 10 26 (bm 14 2047) HT_.out ?_
   refine one_ (i:=11) (N:=some 27) (bm 14 4095) rfl rfl (one_of HT_.out (by kernel_rfl)) (by decide) (fun K hK => ?_)
   refine Kd.R_lit_step kAny _ 20 ?hg (N:=27) ?hd (xs := ([anyB t345,anyI 2,anyB true,anyI t346] : List AnyV)) (inner := [.iface 4 (.bool t345),.iface 3 (.int .i64 2),.iface 4 (.bool true),.iface 3 (.int .i64 t346)]) (ok := fun _ => True) (okp := fun _ => True) ?hr ?hp (fun _ hk => hk) trivial (Below.refl _ _) (Nat.le_refl _) (by simp) ?_; (case hd => rfl); (case hg => rfl); (case hr => first | (go_simp; done) | (go_simp; rfl)); (case hp => exact (Reps.one (show Kd.M kAny _ _ _ (anyB t345) [.iface 4 (.bool t345)] from rfl) (Reps.one (show Kd.M kAny _ _ _ (anyI 2) [.iface 3 (.int .i64 2)] from rfl) (Reps.one (show Kd.M kAny _ _ _ (anyB true) [.iface 4 (.bool true)] from rfl) (Reps.one (show Kd.M kAny _ _ _ (anyI t346) [.iface 3 (.int .i64 t346)] from rfl) (Reps.none _ _))))))
   intro v348 w21 ho22 hb hg_ hnew_
   clear hg_ hnew_
   (first | rw [← Ny347.out] at ho22 | (simp only [Int.reduceToNat] at ho22; rw [← Ny347.out] at ho22))
   have n0_ := Aside0.mk (Kd.R_below (rA HO344.out) hb)
   have n1_ := Aside0.mk (Kd.R_lower ho22 (below_size bA))
   have n2_ := Aside0.mk (blk_below (g:=gb340) (o:=.cells #[.slice A0_0 l0_0.length c0_0,.int .i64 a0_1] 28 (0,0)) (kA BK340.out) hb)
   have n3_ := Aside0.mk (blk_below (g:=gb341) (o:=.cells #[.slice none 0 0,.int .i64 0] 28 (0,0)) (kA BK341.out) hb)
   have n4_ := Aside0.mk (below_step bA hb)
   clear HO344
   clear BK340
   clear BK341
   clear HB
   have HO344 := n0_
   have HO349 := n1_
   have BK340 := n2_
   have BK341 := n3_
   have HB := n4_
   clear n0_ n1_ n2_ n3_ n4_
   clear hb ho22
   obtain ⟨Ao23,co23,eo23⟩ := Kd.R_slice HO349.out
   (first | subst eo23 | (injection eo23 with f1_ f2_ f3_; have f4_ := f1_.symm; have f5_ := f3_.symm; clear f1_ f2_ f3_; subst f4_; subst f5_))
   refine hK.out _ _ ⟨(blk_cell BK340.out 0).trans rfl,(blk_cell BK340.out 1).trans rfl⟩ (fun hHeld => ?_)
   clear hK K
   refine norm_ (a':=?_) ?_ ?_
   rotate_left
   ·show Act.put _ (some 27) _ = _
    simp only [Act.put,setIfInBounds_toArray,set_cons_zero,set_cons_succ,i64_w,i32_w]
    rfl
   refine one_ (i:=12) (N:=some 28) (bm 14 8191) rfl rfl (one_of HT_.out (by kernel_rfl)) (by decide) (fun K hK => ?_)
   refine goes_ Try.func28 (by kernel_rfl) rfl #[.slice Ao23 y347.length co23] (by rfl) rfl rfl mA ?_
   with_reducible refine (impl_first.calls k _ _ y347 t350 _ ?side1 ?side2 A7.out).mono ?_
   (case side1 => repeat (first | exact (Kd.R_reads' HO349.out).2.2 | (with_reducible refine Kd.C_alloc ?_ _) | (with_reducible refine Kd.C_drewN ?_ _) | (with_reducible refine Kd.C_drew ?_)))
   (case side2 => exact (Kd.R_reads' HO349.out).2.1)
   rintro e w' ⟨rfl,⟨nd,rfl⟩⟩
   refine ⟨_,rfl,?_⟩
   refine hK.out _ _ ⟨(blk_cell BK340.out 0).trans rfl,(blk_cell BK340.out 1).trans rfl⟩ (fun hHeld => ?_)
   clear hK K
   refine norm_ (a':=?_) ?_ ?_
   rotate_left
   ·show Act.put _ (some 28) _ = _
    simp only [Act.put,setIfInBounds_toArray,set_cons_zero,set_cons_succ,i64_w,i32_w]
    rfl
   refine pV_ 13 11 (bm 14 16383) HT_.out ?_
   refine done_ (done_of HT_.out (by kernel_rfl)) ?_
   have hnb24 := NB340_341.out
   have hnc24 := NB341_340.out
   have hcz25_0 : w21.cell? ⟨gb340,0,none⟩ = some (.slice A0_0 l0_0.length c0_0) := (blk_cell BK340.out 0).trans rfl
   have hcz25_1 : w21.cell? ⟨gb340,1,none⟩ = some (.int .i64 a0_1) := (blk_cell BK340.out 1).trans rfl
   have hfz25_0 := blk_frozen BK340.out 0
   have hfz25_1 := blk_frozen BK340.out 1
   try go_wp2_with (first | ((with_reducible refine gate_callee (f:=31) rfl ?_); refine goesL_ (some 36) rfl rfl Try.func31 (by kernel_rfl) rfl #[.agg #[.slice A0_0 l0_0.length c0_0,.int .i64 a0_1],.string a1,.int .i64 a2] rfl mA ?_; (with_reducible refine (impl_Store_versionCode.calls k _ _ l0_0 a0_1 a1 a2 t351 _ ?side1 ?side2 A9.out).mono ?_); (case side1 => repeat (first | exact (Kd.C_below HR0_0.out bA) | (with_reducible refine Kd.C_alloc ?_ _) | (with_reducible refine Kd.C_drewN ?_ _) | (with_reducible refine Kd.C_drew ?_))); (case side2 => exact HC0_0.out); rintro e w26 ⟨rfl,hb⟩; refine ⟨_,rfl,?_⟩; have n0_ := Aside0.mk (Kd.R_below (rA HO344.out) hb); have n1_ := Aside0.mk (Kd.R_below (rA HO349.out) hb); have n2_ := Aside0.mk (blk_below (g:=gb340) (o:=.cells #[.slice A0_0 l0_0.length c0_0,.int .i64 a0_1] 28 (0,0)) (kA BK340.out) hb); have n3_ := Aside0.mk (blk_below (g:=gb341) (o:=.cells #[.slice none 0 0,.int .i64 0] 28 (0,0)) (kA BK341.out) hb); have n4_ := Aside0.mk (below_step bA hb); clear HO344; clear HO349; clear BK340; clear BK341; clear HB; have HO344 := n0_; have HO349 := n1_; have BK340 := n2_; have BK341 := n3_; have HB := n4_; clear n0_ n1_ n2_ n3_ n4_; (try clear hb); (try clear hb2); (try clear hk); (try clear hi); have hcz27_0 : w26.cell? ⟨gb340,0,none⟩ = some (.slice A0_0 l0_0.length c0_0) := (blk_cell BK340.out 0).trans rfl; have hcz27_1 : w26.cell? ⟨gb340,1,none⟩ = some (.int .i64 a0_1) := (blk_cell BK340.out 1).trans rfl; have hfz27_0 := blk_frozen BK340.out 0; have hfz27_1 := blk_frozen BK340.out 1) | ((with_reducible refine gate_callee (f:=50) rfl ?_); refine goesL_ (some 46) rfl rfl Try.func50 (by kernel_rfl) rfl #[.agg #[.slice A0_0 l0_0.length c0_0,.int .i64 a0_1],.string a1,.string a3] rfl mA ?_; (with_reducible refine (impl_Store_put.calls k (fun k_ => k_ < w.heap.size) _ _ l0_0 a0_1 a1 a3 t352 t355 t356 t357 _ ?side1 A11.out).mono ?_); (case side1 => exact Kd.V_mk HC0_0.out (Kd.F_below (Kd.C_F k71_heap HR0_0.out) bA)); rintro e w28 ⟨v353,rfl,ho0,hb⟩; refine ⟨_,rfl,?_⟩; have n0_ := Aside0.mk (Kd.R_below (rA HO344.out) hb); have n1_ := Aside0.mk (Kd.R_below (rA HO349.out) hb); have n2_ := Aside0.mk (Kd.V_lower (Kd.V_mono (ok' := fun k_ => some k_ ≠ (.slice Ao18 y342.length co18 : Value).ownBlock ∧ some k_ ≠ (.slice Ao23 y347.length co23 : Value).ownBlock ∧ k_ ≠ gb340 ∧ k_ ≠ gb341) ho0 (fun k_ hk_ => ⟨Or.elim hk_ (fun hs_ => fun e_ => Nat.not_le.2 hs_ (Kd.R_base HO344.out k_ e_.symm)) (fun hn_ => (Kd.fresh' (Kd.R_lt (rA HO344.out)) k_ hn_)),Or.elim hk_ (fun hs_ => fun e_ => Nat.not_le.2 hs_ (Kd.R_base HO349.out k_ e_.symm)) (fun hn_ => (Kd.fresh' (Kd.R_lt (rA HO349.out)) k_ hn_)),Or.elim hk_ (fun hs_ => fun e_ => Nat.not_le.2 hs_ (by rw [e_]; exact GW340.out)) (fun hn_ => (Kd.freshB (g:=gb340) (o:=.cells #[.slice A0_0 l0_0.length c0_0,.int .i64 a0_1] 28 (0,0)) (kA BK340.out) k_ hn_)),Or.elim hk_ (fun hs_ => fun e_ => Nat.not_le.2 hs_ (by rw [e_]; exact GW341.out)) (fun hn_ => (Kd.freshB (g:=gb341) (o:=.cells #[.slice none 0 0,.int .i64 0] 28 (0,0)) (kA BK341.out) k_ hn_))⟩)) (below_size bA)); have n3_ := Aside0.mk (blk_below (g:=gb340) (o:=.cells #[.slice A0_0 l0_0.length c0_0,.int .i64 a0_1] 28 (0,0)) (kA BK340.out) hb); have n4_ := Aside0.mk (blk_below (g:=gb341) (o:=.cells #[.slice none 0 0,.int .i64 0] 28 (0,0)) (kA BK341.out) hb); have n5_ := Aside0.mk (below_step bA hb); clear HO344; clear HO349; clear BK340; clear BK341; clear HB; have HO344 := n0_; have HO349 := n1_; have HO354 := n2_; have BK340 := n3_; have BK341 := n4_; have HB := n5_; clear n0_ n1_ n2_ n3_ n4_ n5_; (try clear hb); (try clear hb2); (try clear hk); (try clear hi); (try clear ho0)) | ((with_reducible refine gate_dst (N:=13) rfl ?_); refine box_event ?hg (N:=13) ?hd (cs := #[.slice none 0 0,.int .i64 0]) (t:=28) ?hr ?_; (case hd => rfl); (case hg => rfl); (case hr => first | (go_simp; done) | (go_simp; rfl)); intro gb358 hg w29 hbox hb; have n0_ := Aside0.mk (Kd.R_below (rA HO344.out) hb); have n1_ := Aside0.mk (Kd.R_below (rA HO349.out) hb); have n2_ := Aside0.mk (Kd.V_below (Kd.V_elderB (by (with_reducible repeat (first | apply Kd.V_alloc | apply Kd.V_drewN | apply Kd.V_drew)); exact HO354.out) gb358 (Nat.le_of_eq hg.symm)) hb); have n3_ := Aside0.mk (blk_below (g:=gb340) (o:=.cells #[.slice A0_0 l0_0.length c0_0,.int .i64 a0_1] 28 (0,0)) (kA BK340.out) hb); have n4_ := Aside0.mk (blk_below (g:=gb341) (o:=.cells #[.slice none 0 0,.int .i64 0] 28 (0,0)) (kA BK341.out) hb); have n5_ := Aside0.mk (below_step bA hb); have n6_ := Aside0.mk (hbox); have n7_ := Aside0.mk ((by rw [hg]; exact (below_size bA) : w.heap.size ≤ gb358)); have n8_ := Aside0.mk ((by rw [hg]; exact (below_size bA) : w.heap.size ≤ gb358)); have n9_ := Aside0.mk ((by rw [hg]; exact Nat.ne_of_lt (blk_lt (g:=gb340) (o:=.cells #[.slice A0_0 l0_0.length c0_0,.int .i64 a0_1] 28 (0,0)) (kA BK340.out)) : gb340 ≠ gb358)); have n10_ := Aside0.mk ((by rw [hg]; exact Nat.ne_of_gt (blk_lt (g:=gb340) (o:=.cells #[.slice A0_0 l0_0.length c0_0,.int .i64 a0_1] 28 (0,0)) (kA BK340.out)) : gb358 ≠ gb340)); have n11_ := Aside0.mk ((by rw [hg]; exact Nat.ne_of_lt (blk_lt (g:=gb341) (o:=.cells #[.slice none 0 0,.int .i64 0] 28 (0,0)) (kA BK341.out)) : gb341 ≠ gb358)); have n12_ := Aside0.mk ((by rw [hg]; exact Nat.ne_of_gt (blk_lt (g:=gb341) (o:=.cells #[.slice none 0 0,.int .i64 0] 28 (0,0)) (kA BK341.out)) : gb358 ≠ gb341)); clear HO344; clear HO349; clear HO354; clear BK340; clear BK341; clear HB; have HO344 := n0_; have HO349 := n1_; have HO354 := n2_; have BK340 := n3_; have BK341 := n4_; have HB := n5_; have BK358 := n6_; have GW358 := n7_; have GE358 := n8_; have NB340_358 := n9_; have NB358_340 := n10_; have NB341_358 := n11_; have NB358_341 := n12_; clear n0_ n1_ n2_ n3_ n4_ n5_ n6_ n7_ n8_ n9_ n10_ n11_ n12_; clear hb hbox hg; obtain ⟨Ao30,co30,eo30⟩ := Kd.V_slice HO354.out; subst eo30; have hnb31 := NB358_340.out; have hnc31 := NB340_358.out; have hnb32 := NB358_341.out; have hnc32 := NB341_358.out; have hcz33_0 : w29.cell? ⟨gb358,0,none⟩ = some (.slice none 0 0) := (blk_cell BK358.out 0).trans rfl; have hcz33_1 : w29.cell? ⟨gb358,1,none⟩ = some (.int .i64 0) := (blk_cell BK358.out 1).trans rfl; have hfz33_0 := blk_frozen BK358.out 0; have hfz33_1 := blk_frozen BK358.out 1) | ((with_reducible refine gate_callee (f:=32) rfl ?_); refine goesL_ (some 51) rfl rfl Try.func32 (by kernel_rfl) rfl #[.agg #[.slice Ao30 t352.length co30,.int .i64 t355]] rfl mA ?_; (with_reducible refine (impl_Store_copied.calls _ _ t352 t355 t359 t362 _ ?side1 ?side2 A12.out).mono ?_); (case side1 => refine (Kd.V_reads' (e:=71) (base := w.heap.size) (ok := fun k_ => ((some k_ ≠ (.slice Ao18 y342.length co18 : Value).ownBlock ∧ (some k_ ≠ (.slice Ao23 y347.length co23 : Value).ownBlock ∧ (k_ ≠ gb340 ∧ k_ ≠ gb341))) ∧ k_ ≠ gb358)) (n:=t352.length) (c:=co30) ?_).2.2; exact (by (with_reducible repeat (first | apply Kd.V_alloc | apply Kd.V_drewN | apply Kd.V_drew)); exact (Kd.V_mono (Kd.V_far (p:=⟨gb358,1,none⟩) (Kd.V_far (p:=⟨gb358,0,none⟩) (Kd.V_mono HO354.out (fun k_ hk => (⟨hk,hk.2⟩ : _ ∧ k_ ≠ gb358))) (fun _ hk => hk.2) (.slice Ao30 t352.length co30)) (fun _ hk => hk.2) (.int .i64 t355)) (fun _ h_ => h_.1)))); (case side2 => exact (Kd.V_reads' HO354.out).2.1); rintro e w34 ⟨v360,rfl,ho0,hb⟩; refine ⟨_,rfl,?_⟩; have n0_ := Aside0.mk (Kd.R_below (by (with_reducible repeat (first | apply Kd.R_alloc | apply Kd.R_drewN | apply Kd.R_drew)); exact (Kd.R_mono (Kd.R_far (p:=⟨gb358,1,none⟩) (Kd.R_far (p:=⟨gb358,0,none⟩) (Kd.R_types HO344.out BK358.out (by decide)) (fun _ hk => hk.2) (.slice Ao30 t352.length co30)) (fun _ hk => hk.2) (.int .i64 t355)) (fun _ h_ => h_.1))) hb); have n1_ := Aside0.mk (Kd.R_below (by (with_reducible repeat (first | apply Kd.R_alloc | apply Kd.R_drewN | apply Kd.R_drew)); exact (Kd.R_mono (Kd.R_far (p:=⟨gb358,1,none⟩) (Kd.R_far (p:=⟨gb358,0,none⟩) (Kd.R_types HO349.out BK358.out (by decide)) (fun _ hk => hk.2) (.slice Ao30 t352.length co30)) (fun _ hk => hk.2) (.int .i64 t355)) (fun _ h_ => h_.1))) hb); have n2_ := Aside0.mk (Kd.V_elder' (by (with_reducible repeat (first | apply Kd.V_alloc | apply Kd.V_drewN | apply Kd.V_drew)); exact (Kd.V_mono (Kd.V_far (p:=⟨gb358,1,none⟩) (Kd.V_far (p:=⟨gb358,0,none⟩) (Kd.V_mono HO354.out (fun k_ hk => (⟨hk,hk.2⟩ : _ ∧ k_ ≠ gb358))) (fun _ hk => hk.2) (.slice Ao30 t352.length co30)) (fun _ hk => hk.2) (.int .i64 t355)) (fun _ h_ => h_.1))) (Kd.R_base ho0) hb); have n3_ := Aside0.mk (Kd.R_lower ho0 (below_size bA)); have n4_ := Aside0.mk (blk_below (g:=gb340) (o:=.cells #[.slice A0_0 l0_0.length c0_0,.int .i64 a0_1] 28 (0,0)) (kF BK340.out) hb); have n5_ := Aside0.mk (blk_below (g:=gb341) (o:=.cells #[.slice none 0 0,.int .i64 0] 28 (0,0)) (kF BK341.out) hb); have n6_ := Aside0.mk (blk_below (g:=gb358) (o:=.cells #[.slice Ao30 t352.length co30,.int .i64 t355] 28 (0,0)) (by (with_reducible repeat (first | refine blk_drewN ?_ _ | refine blk_drew ?_ | refine blk_alloc ?_ _)); refine blk_put (cs := #[.slice Ao30 t352.length co30,.int .i64 0]) ?_ 1 _ rfl; (with_reducible repeat (first | refine blk_drewN ?_ _ | refine blk_drew ?_ | refine blk_alloc ?_ _)); refine blk_put (cs := #[.slice none 0 0,.int .i64 0]) ?_ 0 _ rfl; (with_reducible repeat (first | refine blk_drewN ?_ _ | refine blk_drew ?_ | refine blk_alloc ?_ _)); exact BK358.out) hb); have n7_ := Aside0.mk (below_step bA hb); clear HO344; clear HO349; clear HO354; clear BK340; clear BK341; clear BK358; clear HB; have HO344 := n0_; have HO349 := n1_; have HO354 := n2_; have HO361 := n3_; have BK340 := n4_; have BK341 := n5_; have BK358 := n6_; have HB := n7_; clear n0_ n1_ n2_ n3_ n4_ n5_ n6_ n7_; (try clear hb); (try clear hb2); (try clear hk); (try clear hi); (try clear ho0); obtain ⟨Ao35,co35,eo35⟩ := Kd.R_slice HO361.out; subst eo35; have hcz36_0 : w34.cell? ⟨gb341,0,none⟩ = some (.slice none 0 0) := (blk_cell BK341.out 0).trans rfl; have hcz36_1 : w34.cell? ⟨gb341,1,none⟩ = some (.int .i64 0) := (blk_cell BK341.out 1).trans rfl; have hfz36_0 := blk_frozen BK341.out 0; have hfz36_1 := blk_frozen BK341.out 1))
   refine bodyPost_ret (results_ctt rfl _ _ gb341 28 #[.slice Ao35 t359.length co35,.int .i64 t362] (0,0) _ rfl (by (with_reducible repeat (first | refine blk_drewN ?_ _ | refine blk_drew ?_ | refine blk_alloc ?_ _)); refine blk_put (cs := #[.slice Ao35 t359.length co35,.int .i64 0]) ?_ 1 _ rfl; (with_reducible repeat (first | refine blk_drewN ?_ _ | refine blk_drew ?_ | refine blk_alloc ?_ _)); refine blk_put (cs := #[.slice none 0 0,.int .i64 0]) ?_ 0 _ rfl; (with_reducible repeat (first | refine blk_drewN ?_ _ | refine blk_drew ?_ | refine blk_alloc ?_ _)); exact BK341.out) Try.underlying28 rfl (by kernel_rfl)) rfl ?_
   exact ⟨_,by first | rfl | (simp [errW_none,errW_some] <;> rfl) | (simp [*,errW_none,errW_some] <;> rfl),by (with_reducible repeat (first | apply Kd.R_alloc | apply Kd.R_drewN | apply Kd.R_drew)); exact Kd.R_mono (Kd.R_far (p:=⟨gb341,1,none⟩) (Kd.R_far (p:=⟨gb341,0,none⟩) (Kd.R_types HO361.out BK341.out (by decide)) (fun _ hk => hk.2) (.slice Ao35 t359.length co35)) (fun _ hk => hk.2) (.int .i64 t362)) (fun _ hk => trivial),bA⟩
  ·rw [if_neg c10] at H
   have c10b0 : (t351 == 0) = false := beq_eq_false_iff_ne.mpr c10
   have c10b1 : (t351 != 0) = true := bne_iff_ne.mpr c10
   replace H := Option.bind_eq_some_iff.mp H
   obtain ⟨⟨t363,t366⟩,A370,H⟩ := H
   try dsimp only at H
   have A37 := Aside0.mk A370
   clear A370
   simp only [Option.some.injEq,Prod.mk.injEq] at H
   obtain ⟨rfl,rfl,rfl,rfl⟩ := H
   go_enter Try.func22,Try.ntmps22
   try go_wp2_with (first | ((with_reducible refine gate_dst (N:=4) rfl ?_); refine box_event ?hg (N:=4) ?hd (cs := #[.slice A0_0 l0_0.length c0_0,.int .i64 a0_1]) (t:=28) ?hr ?_; (case hd => rfl); (case hg => rfl); (case hr => first | (go_simp; done) | (go_simp; rfl)); intro gb340 hg w38 hbox hb; have n0_ := Aside0.mk (below_step bA hb); have n1_ := Aside0.mk (hbox); have n2_ := Aside0.mk ((by rw [hg]; exact (below_size bA) : w.heap.size ≤ gb340)); have n3_ := Aside0.mk ((by rw [hg]; exact (below_size bA) : w.heap.size ≤ gb340)); clear HB; have HB := n0_; have BK340 := n1_; have GW340 := n2_; have GE340 := n3_; clear n0_ n1_ n2_ n3_; clear hb hbox hg) | ((with_reducible refine gate_dst (N:=8) rfl ?_); refine box_event ?hg (N:=8) ?hd (cs := #[.slice none 0 0,.int .i64 0]) (t:=28) ?hr ?_; (case hd => rfl); (case hg => rfl); (case hr => first | (go_simp; done) | (go_simp; rfl)); intro gb341 hg w39 hbox hb; have n0_ := Aside0.mk (blk_below (g:=gb340) (o:=.cells #[.slice A0_0 l0_0.length c0_0,.int .i64 a0_1] 28 (0,0)) (kA BK340.out) hb); have n1_ := Aside0.mk (below_step bA hb); have n2_ := Aside0.mk (hbox); have n3_ := Aside0.mk ((by rw [hg]; exact (below_size bA) : w.heap.size ≤ gb341)); have n4_ := Aside0.mk ((by rw [hg]; exact (below_size bA) : w.heap.size ≤ gb341)); have n5_ := Aside0.mk ((by rw [hg]; exact Nat.ne_of_lt (blk_lt (g:=gb340) (o:=.cells #[.slice A0_0 l0_0.length c0_0,.int .i64 a0_1] 28 (0,0)) (kA BK340.out)) : gb340 ≠ gb341)); have n6_ := Aside0.mk ((by rw [hg]; exact Nat.ne_of_gt (blk_lt (g:=gb340) (o:=.cells #[.slice A0_0 l0_0.length c0_0,.int .i64 a0_1] 28 (0,0)) (kA BK340.out)) : gb341 ≠ gb340)); clear BK340; clear HB; have BK340 := n0_; have HB := n1_; have BK341 := n2_; have GW341 := n3_; have GE341 := n4_; have NB340_341 := n5_; have NB341_340 := n6_; clear n0_ n1_ n2_ n3_ n4_ n5_ n6_; clear hb hbox hg))
   have n0_ := Aside0.mk (blk_drew BK340.out)
   have n1_ := Aside0.mk (blk_drew BK341.out)
   have n2_ := Aside0.mk (below_drew1 HB.out)
   clear BK340
   clear BK341
   clear HB
   have BK340 := n0_
   have BK341 := n1_
   have HB := n2_
   clear n0_ n1_ n2_
   refine start_ (n:=14) (S:=fun w' => w'.cell? ⟨gb340,0,none⟩ = some (.slice A0_0 l0_0.length c0_0) ∧ w'.cell? ⟨gb340,1,none⟩ = some (.int .i64 a0_1)) (ds := []) (bm 14 0) (by kernel_rfl) rfl rfl ⟨(blk_cell BK340.out 0).trans rfl,(blk_cell BK340.out 1).trans rfl⟩ (fun hHeld => ?_); refine with_tabW impl_PutVersion.tab1 impl_PutVersion.bits1 (fun HT_ HW_ => ?_)
   generalize w39.drew = w40 at BK340 BK341 HB hHeld ⊢
   refine pV_ 0 16 (bm 14 1) HT_.out ?_
   refine pV_ 1 17 (bm 14 3) HT_.out ?_
   refine pV_ 5 21 (bm 14 35) HT_.out ?_
   refine pV_ 6 22 (bm 14 99) HT_.out ?_
   refine pV_ 8 24 (bm 14 355) HT_.out ?_
   refine take_ (i:=7) (N:=some 23) (v:=?_) (a':=?_) (bm 14 483) rfl rfl (take_ofW HT_.out HW_.out (by kernel_rfl)) (fun _ _ _ h => h) (Or.inl ⟨by rfl,?_⟩) hHeld ?_ ?_
   rotate_left
   ·rintro w' ⟨s0,s1⟩
    go_simp
    with_reducible rfl
   rotate_left
   ·simp only [Act.put,setIfInBounds_toArray,set_cons_zero,set_cons_succ,i64_w,i32_w]
    rfl
   refine one_ (i:=2) (N:=some 18) (bm 14 487) rfl rfl (one_of HT_.out (by kernel_rfl)) (by decide) (fun K hK => ?_)
   refine Kd.R_lit_step Kd.string _ 9 ?hg (N:=18) ?hd (xs := ([a1,a3] : List ByteArray)) (inner := [.string a1,.string a3]) (ok := fun _ => True) (okp := fun _ => True) ?hr ?hp (fun _ hk => hk) trivial (Below.refl _ _) (Nat.le_refl _) (by simp) ?_; (case hd => rfl); (case hg => rfl); (case hr => first | (go_simp; done) | (go_simp; rfl)); (case hp => exact (Reps.one (show Kd.M Kd.string _ _ _ a1 [.string a1] from rfl) (Reps.one (show Kd.M Kd.string _ _ _ a3 [.string a3] from rfl) (Reps.none _ _))))
   intro v343 w41 ho42 hb hg_ hnew_
   clear hg_ hnew_
   (first | rw [← Ny342.out] at ho42 | (simp only [Int.reduceToNat] at ho42; rw [← Ny342.out] at ho42))
   have n0_ := Aside0.mk (Kd.R_lower ho42 (below_size bA))
   have n1_ := Aside0.mk (blk_below (g:=gb340) (o:=.cells #[.slice A0_0 l0_0.length c0_0,.int .i64 a0_1] 28 (0,0)) (kA BK340.out) hb)
   have n2_ := Aside0.mk (blk_below (g:=gb341) (o:=.cells #[.slice none 0 0,.int .i64 0] 28 (0,0)) (kA BK341.out) hb)
   have n3_ := Aside0.mk (below_step bA hb)
   clear BK340
   clear BK341
   clear HB
   have HO344 := n0_
   have BK340 := n1_
   have BK341 := n2_
   have HB := n3_
   clear n0_ n1_ n2_ n3_
   clear hb ho42
   obtain ⟨Ao43,co43,eo43⟩ := Kd.R_slice HO344.out
   (first | subst eo43 | (injection eo43 with f1_ f2_ f3_; have f4_ := f1_.symm; have f5_ := f3_.symm; clear f1_ f2_ f3_; subst f4_; subst f5_))
   refine hK.out _ _ ⟨(blk_cell BK340.out 0).trans rfl,(blk_cell BK340.out 1).trans rfl⟩ (fun hHeld => ?_)
   clear hK K
   refine norm_ (a':=?_) ?_ ?_
   rotate_left
   ·show Act.put _ (some 18) _ = _
    simp only [Act.put,setIfInBounds_toArray,set_cons_zero,set_cons_succ,i64_w,i32_w]
    rfl
   refine one_ (i:=3) (N:=some 19) (bm 14 495) rfl rfl (one_of HT_.out (by kernel_rfl)) (by decide) (fun K hK => ?_)
   refine goes_ Try.func29 (by kernel_rfl) rfl #[.slice Ao43 y342.length co43] (by rfl) rfl rfl mA ?_
   with_reducible refine (impl_isLong.calls _ _ y342 t345 _ ?side1 ?side2 A5.out).mono ?_
   (case side1 => repeat (first | exact (Kd.R_reads' HO344.out).2.2 | (with_reducible refine Kd.C_alloc ?_ _) | (with_reducible refine Kd.C_drewN ?_ _) | (with_reducible refine Kd.C_drew ?_)))
   (case side2 => exact (Kd.R_reads' HO344.out).2.1)
   rintro e w44 ⟨rfl,hb⟩
   refine ⟨_,rfl,?_⟩
   have n0_ := Aside0.mk (Kd.R_below (rA HO344.out) hb)
   have n1_ := Aside0.mk (blk_below (g:=gb340) (o:=.cells #[.slice A0_0 l0_0.length c0_0,.int .i64 a0_1] 28 (0,0)) (kA BK340.out) hb)
   have n2_ := Aside0.mk (blk_below (g:=gb341) (o:=.cells #[.slice none 0 0,.int .i64 0] 28 (0,0)) (kA BK341.out) hb)
   have n3_ := Aside0.mk (below_step bA hb)
   clear HO344
   clear BK340
   clear BK341
   clear HB
   have HO344 := n0_
   have BK340 := n1_
   have BK341 := n2_
   have HB := n3_
   clear n0_ n1_ n2_ n3_
   (try clear hb)
   (try clear hb2)
   (try clear hk)
   (try clear hi)
   refine hK.out _ _ ⟨(blk_cell BK340.out 0).trans rfl,(blk_cell BK340.out 1).trans rfl⟩ (fun hHeld => ?_)
   clear hK K
   refine norm_ (a':=?_) ?_ ?_
   rotate_left
   ·show Act.put _ (some 19) _ = _
    simp only [Act.put,setIfInBounds_toArray,set_cons_zero,set_cons_succ,i64_w,i32_w]
    rfl
   refine pV_ 4 20 (bm 14 511) HT_.out ?_
   refine one_ (i:=9) (N:=some 25) (bm 14 1023) rfl rfl (one_of HT_.out (by kernel_rfl)) (by decide) (fun K hK => ?_)
   refine goes_ Try.func30 (by kernel_rfl) rfl #[.agg #[.slice A0_0 l0_0.length c0_0,.int .i64 a0_1],.string a1] (by rfl) rfl rfl mA ?_
   with_reducible refine (impl_storeCode.calls k _ _ l0_0 a0_1 a1 t346 _ ?side1 ?side2 A6.out).mono ?_
   (case side1 => repeat (first | exact (Kd.C_below HR0_0.out HB.out) | (with_reducible refine Kd.C_alloc ?_ _) | (with_reducible refine Kd.C_drewN ?_ _) | (with_reducible refine Kd.C_drew ?_)))
   (case side2 => exact HC0_0.out)
   rintro e w45 ⟨rfl,hb⟩
   refine ⟨_,rfl,?_⟩
   have n0_ := Aside0.mk (Kd.R_below (rA HO344.out) hb)
   have n1_ := Aside0.mk (blk_below (g:=gb340) (o:=.cells #[.slice A0_0 l0_0.length c0_0,.int .i64 a0_1] 28 (0,0)) (kA BK340.out) hb)
   have n2_ := Aside0.mk (blk_below (g:=gb341) (o:=.cells #[.slice none 0 0,.int .i64 0] 28 (0,0)) (kA BK341.out) hb)
   have n3_ := Aside0.mk (below_step bA hb)
   clear HO344
   clear BK340
   clear BK341
   clear HB
   have HO344 := n0_
   have BK340 := n1_
   have BK341 := n2_
   have HB := n3_
   clear n0_ n1_ n2_ n3_
   (try clear hb)
   (try clear hb2)
   (try clear hk)
   (try clear hi)
   refine hK.out _ _ ⟨(blk_cell BK340.out 0).trans rfl,(blk_cell BK340.out 1).trans rfl⟩ (fun hHeld => ?_)
   clear hK K
   refine norm_ (a':=?_) ?_ ?_
   rotate_left
   ·show Act.put _ (some 25) _ = _
    simp only [Act.put,setIfInBounds_toArray,set_cons_zero,set_cons_succ,i64_w,i32_w]
    rfl
   refine pV_ 10 26 (bm 14 2047) HT_.out ?_
   refine one_ (i:=11) (N:=some 27) (bm 14 4095) rfl rfl (one_of HT_.out (by kernel_rfl)) (by decide) (fun K hK => ?_)
   refine Kd.R_lit_step kAny _ 20 ?hg (N:=27) ?hd (xs := ([anyB t345,anyI 2,anyB true,anyI t346] : List AnyV)) (inner := [.iface 4 (.bool t345),.iface 3 (.int .i64 2),.iface 4 (.bool true),.iface 3 (.int .i64 t346)]) (ok := fun _ => True) (okp := fun _ => True) ?hr ?hp (fun _ hk => hk) trivial (Below.refl _ _) (Nat.le_refl _) (by simp) ?_; (case hd => rfl); (case hg => rfl); (case hr => first | (go_simp; done) | (go_simp; rfl)); (case hp => exact (Reps.one (show Kd.M kAny _ _ _ (anyB t345) [.iface 4 (.bool t345)] from rfl) (Reps.one (show Kd.M kAny _ _ _ (anyI 2) [.iface 3 (.int .i64 2)] from rfl) (Reps.one (show Kd.M kAny _ _ _ (anyB true) [.iface 4 (.bool true)] from rfl) (Reps.one (show Kd.M kAny _ _ _ (anyI t346) [.iface 3 (.int .i64 t346)] from rfl) (Reps.none _ _))))))
   intro v348 w46 ho47 hb hg_ hnew_
   clear hg_ hnew_
   (first | rw [← Ny347.out] at ho47 | (simp only [Int.reduceToNat] at ho47; rw [← Ny347.out] at ho47))
   have n0_ := Aside0.mk (Kd.R_below (rA HO344.out) hb)
   have n1_ := Aside0.mk (Kd.R_lower ho47 (below_size bA))
   have n2_ := Aside0.mk (blk_below (g:=gb340) (o:=.cells #[.slice A0_0 l0_0.length c0_0,.int .i64 a0_1] 28 (0,0)) (kA BK340.out) hb)
   have n3_ := Aside0.mk (blk_below (g:=gb341) (o:=.cells #[.slice none 0 0,.int .i64 0] 28 (0,0)) (kA BK341.out) hb)
   have n4_ := Aside0.mk (below_step bA hb)
   clear HO344
   clear BK340
   clear BK341
   clear HB
   have HO344 := n0_
   have HO349 := n1_
   have BK340 := n2_
   have BK341 := n3_
   have HB := n4_
   clear n0_ n1_ n2_ n3_ n4_
   clear hb ho47
   obtain ⟨Ao48,co48,eo48⟩ := Kd.R_slice HO349.out
   (first | subst eo48 | (injection eo48 with f1_ f2_ f3_; have f4_ := f1_.symm; have f5_ := f3_.symm; clear f1_ f2_ f3_; subst f4_; subst f5_))
   refine hK.out _ _ ⟨(blk_cell BK340.out 0).trans rfl,(blk_cell BK340.out 1).trans rfl⟩ (fun hHeld => ?_)
   clear hK K
   refine norm_ (a':=?_) ?_ ?_
   rotate_left
   ·show Act.put _ (some 27) _ = _
    simp only [Act.put,setIfInBounds_toArray,set_cons_zero,set_cons_succ,i64_w,i32_w]
    rfl
   refine one_ (i:=12) (N:=some 28) (bm 14 8191) rfl rfl (one_of HT_.out (by kernel_rfl)) (by decide) (fun K hK => ?_)
   refine goes_ Try.func28 (by kernel_rfl) rfl #[.slice Ao48 y347.length co48] (by rfl) rfl rfl mA ?_
   with_reducible refine (impl_first.calls k _ _ y347 t350 _ ?side1 ?side2 A7.out).mono ?_
   (case side1 => repeat (first | exact (Kd.R_reads' HO349.out).2.2 | (with_reducible refine Kd.C_alloc ?_ _) | (with_reducible refine Kd.C_drewN ?_ _) | (with_reducible refine Kd.C_drew ?_)))
   (case side2 => exact (Kd.R_reads' HO349.out).2.1)
   rintro e w' ⟨rfl,⟨nd,rfl⟩⟩
   refine ⟨_,rfl,?_⟩
   refine hK.out _ _ ⟨(blk_cell BK340.out 0).trans rfl,(blk_cell BK340.out 1).trans rfl⟩ (fun hHeld => ?_)
   clear hK K
   refine norm_ (a':=?_) ?_ ?_
   rotate_left
   ·show Act.put _ (some 28) _ = _
    simp only [Act.put,setIfInBounds_toArray,set_cons_zero,set_cons_succ,i64_w,i32_w]
    rfl
   refine pV_ 13 11 (bm 14 16383) HT_.out ?_
   refine done_ (done_of HT_.out (by kernel_rfl)) ?_
   have hnb49 := NB340_341.out
   have hnc49 := NB341_340.out
   have hcz50_0 : w46.cell? ⟨gb340,0,none⟩ = some (.slice A0_0 l0_0.length c0_0) := (blk_cell BK340.out 0).trans rfl
   have hcz50_1 : w46.cell? ⟨gb340,1,none⟩ = some (.int .i64 a0_1) := (blk_cell BK340.out 1).trans rfl
   have hfz50_0 := blk_frozen BK340.out 0
   have hfz50_1 := blk_frozen BK340.out 1
   try go_wp2_with (first | ((with_reducible refine gate_callee (f:=31) rfl ?_); refine goesL_ (some 36) rfl rfl Try.func31 (by kernel_rfl) rfl #[.agg #[.slice A0_0 l0_0.length c0_0,.int .i64 a0_1],.string a1,.int .i64 a2] rfl mA ?_; (with_reducible refine (impl_Store_versionCode.calls k _ _ l0_0 a0_1 a1 a2 t351 _ ?side1 ?side2 A9.out).mono ?_); (case side1 => repeat (first | exact (Kd.C_below HR0_0.out bA) | (with_reducible refine Kd.C_alloc ?_ _) | (with_reducible refine Kd.C_drewN ?_ _) | (with_reducible refine Kd.C_drew ?_))); (case side2 => exact HC0_0.out); rintro e w51 ⟨rfl,hb⟩; refine ⟨_,rfl,?_⟩; have n0_ := Aside0.mk (Kd.R_below (rA HO344.out) hb); have n1_ := Aside0.mk (Kd.R_below (rA HO349.out) hb); have n2_ := Aside0.mk (blk_below (g:=gb340) (o:=.cells #[.slice A0_0 l0_0.length c0_0,.int .i64 a0_1] 28 (0,0)) (kA BK340.out) hb); have n3_ := Aside0.mk (blk_below (g:=gb341) (o:=.cells #[.slice none 0 0,.int .i64 0] 28 (0,0)) (kA BK341.out) hb); have n4_ := Aside0.mk (below_step bA hb); clear HO344; clear HO349; clear BK340; clear BK341; clear HB; have HO344 := n0_; have HO349 := n1_; have BK340 := n2_; have BK341 := n3_; have HB := n4_; clear n0_ n1_ n2_ n3_ n4_; (try clear hb); (try clear hb2); (try clear hk); (try clear hi); have hcz52_0 : w51.cell? ⟨gb340,0,none⟩ = some (.slice A0_0 l0_0.length c0_0) := (blk_cell BK340.out 0).trans rfl; have hcz52_1 : w51.cell? ⟨gb340,1,none⟩ = some (.int .i64 a0_1) := (blk_cell BK340.out 1).trans rfl; have hfz52_0 := blk_frozen BK340.out 0; have hfz52_1 := blk_frozen BK340.out 1) | ((with_reducible refine gate_callee (f:=32) rfl ?_); refine goesL_ (some 40) rfl rfl Try.func32 (by kernel_rfl) rfl #[.agg #[.slice A0_0 l0_0.length c0_0,.int .i64 a0_1]] rfl mA ?_; (with_reducible refine (impl_Store_copied.calls _ _ l0_0 a0_1 t363 t366 _ ?side1 ?side2 A37.out).mono ?_); (case side1 => repeat (first | exact (Kd.C_below HR0_0.out HB.out) | (with_reducible refine Kd.C_alloc ?_ _) | (with_reducible refine Kd.C_drewN ?_ _) | (with_reducible refine Kd.C_drew ?_))); (case side2 => exact HC0_0.out); rintro e w53 ⟨v364,rfl,ho0,hb⟩; refine ⟨_,rfl,?_⟩; have n0_ := Aside0.mk (Kd.R_below (rA HO344.out) hb); have n1_ := Aside0.mk (Kd.R_below (rA HO349.out) hb); have n2_ := Aside0.mk (Kd.R_lower ho0 (below_size bA)); have n3_ := Aside0.mk (blk_below (g:=gb340) (o:=.cells #[.slice A0_0 l0_0.length c0_0,.int .i64 a0_1] 28 (0,0)) (kA BK340.out) hb); have n4_ := Aside0.mk (blk_below (g:=gb341) (o:=.cells #[.slice none 0 0,.int .i64 0] 28 (0,0)) (kA BK341.out) hb); have n5_ := Aside0.mk (below_step bA hb); clear HO344; clear HO349; clear BK340; clear BK341; clear HB; have HO344 := n0_; have HO349 := n1_; have HO365 := n2_; have BK340 := n3_; have BK341 := n4_; have HB := n5_; clear n0_ n1_ n2_ n3_ n4_ n5_; (try clear hb); (try clear hb2); (try clear hk); (try clear hi); (try clear ho0); obtain ⟨Ao54,co54,eo54⟩ := Kd.R_slice HO365.out; subst eo54; have hcz55_0 : w53.cell? ⟨gb341,0,none⟩ = some (.slice none 0 0) := (blk_cell BK341.out 0).trans rfl; have hcz55_1 : w53.cell? ⟨gb341,1,none⟩ = some (.int .i64 0) := (blk_cell BK341.out 1).trans rfl; have hfz55_0 := blk_frozen BK341.out 0; have hfz55_1 := blk_frozen BK341.out 1))
   refine bodyPost_ret (results_ctt rfl _ _ gb341 28 #[.slice Ao54 t363.length co54,.int .i64 t366] (0,0) _ rfl (by (with_reducible repeat (first | refine blk_drewN ?_ _ | refine blk_drew ?_ | refine blk_alloc ?_ _)); refine blk_put (cs := #[.slice Ao54 t363.length co54,.int .i64 0]) ?_ 1 _ rfl; (with_reducible repeat (first | refine blk_drewN ?_ _ | refine blk_drew ?_ | refine blk_alloc ?_ _)); refine blk_put (cs := #[.slice none 0 0,.int .i64 0]) ?_ 0 _ rfl; (with_reducible repeat (first | refine blk_drewN ?_ _ | refine blk_drew ?_ | refine blk_alloc ?_ _)); exact BK341.out) Try.underlying28 rfl (by kernel_rfl)) rfl ?_
   exact ⟨_,by first | rfl | (simp [errW_none,errW_some] <;> rfl) | (simp [*,errW_none,errW_some] <;> rfl),by (with_reducible repeat (first | apply Kd.R_alloc | apply Kd.R_drewN | apply Kd.R_drew)); exact Kd.R_mono (Kd.R_far (p:=⟨gb341,1,none⟩) (Kd.R_far (p:=⟨gb341,0,none⟩) (Kd.R_types HO365.out BK341.out (by decide)) (fun _ hk => hk.2) (.slice Ao54 t363.length co54)) (fun _ hk => hk.2) (.int .i64 t366)) (fun _ hk => trivial),bA⟩
 ·rw [if_neg c8] at H
  have c8b0 : (t350 == 0) = false := beq_eq_false_iff_ne.mpr c8
  have c8b1 : (t350 != 0) = true := bne_iff_ne.mpr c8
  simp only [Option.some.injEq,Prod.mk.injEq] at H
  obtain ⟨rfl,rfl,rfl,rfl⟩ := H
  go_enter Try.func22,Try.ntmps22
  try go_wp2_with (first | ((with_reducible refine gate_dst (N:=4) rfl ?_); refine box_event ?hg (N:=4) ?hd (cs := #[.slice A0_0 l0_0.length c0_0,.int .i64 a0_1]) (t:=28) ?hr ?_; (case hd => rfl); (case hg => rfl); (case hr => first | (go_simp; done) | (go_simp; rfl)); intro gb340 hg w56 hbox hb; have n0_ := Aside0.mk (below_step bA hb); have n1_ := Aside0.mk (hbox); have n2_ := Aside0.mk ((by rw [hg]; exact (below_size bA) : w.heap.size ≤ gb340)); have n3_ := Aside0.mk ((by rw [hg]; exact (below_size bA) : w.heap.size ≤ gb340)); clear HB; have HB := n0_; have BK340 := n1_; have GW340 := n2_; have GE340 := n3_; clear n0_ n1_ n2_ n3_; clear hb hbox hg) | ((with_reducible refine gate_dst (N:=8) rfl ?_); refine box_event ?hg (N:=8) ?hd (cs := #[.slice none 0 0,.int .i64 0]) (t:=28) ?hr ?_; (case hd => rfl); (case hg => rfl); (case hr => first | (go_simp; done) | (go_simp; rfl)); intro gb341 hg w57 hbox hb; have n0_ := Aside0.mk (blk_below (g:=gb340) (o:=.cells #[.slice A0_0 l0_0.length c0_0,.int .i64 a0_1] 28 (0,0)) (kA BK340.out) hb); have n1_ := Aside0.mk (below_step bA hb); have n2_ := Aside0.mk (hbox); have n3_ := Aside0.mk ((by rw [hg]; exact (below_size bA) : w.heap.size ≤ gb341)); have n4_ := Aside0.mk ((by rw [hg]; exact (below_size bA) : w.heap.size ≤ gb341)); have n5_ := Aside0.mk ((by rw [hg]; exact Nat.ne_of_lt (blk_lt (g:=gb340) (o:=.cells #[.slice A0_0 l0_0.length c0_0,.int .i64 a0_1] 28 (0,0)) (kA BK340.out)) : gb340 ≠ gb341)); have n6_ := Aside0.mk ((by rw [hg]; exact Nat.ne_of_gt (blk_lt (g:=gb340) (o:=.cells #[.slice A0_0 l0_0.length c0_0,.int .i64 a0_1] 28 (0,0)) (kA BK340.out)) : gb341 ≠ gb340)); clear BK340; clear HB; have BK340 := n0_; have HB := n1_; have BK341 := n2_; have GW341 := n3_; have GE341 := n4_; have NB340_341 := n5_; have NB341_340 := n6_; clear n0_ n1_ n2_ n3_ n4_ n5_ n6_; clear hb hbox hg))
  have n0_ := Aside0.mk (blk_drew BK340.out)
  have n1_ := Aside0.mk (blk_drew BK341.out)
  have n2_ := Aside0.mk (below_drew1 HB.out)
  clear BK340
  clear BK341
  clear HB
  have BK340 := n0_
  have BK341 := n1_
  have HB := n2_
  clear n0_ n1_ n2_
  refine start_ (n:=14) (S:=fun w' => w'.cell? ⟨gb340,0,none⟩ = some (.slice A0_0 l0_0.length c0_0) ∧ w'.cell? ⟨gb340,1,none⟩ = some (.int .i64 a0_1)) (ds := []) (bm 14 0) (by kernel_rfl) rfl rfl ⟨(blk_cell BK340.out 0).trans rfl,(blk_cell BK340.out 1).trans rfl⟩ (fun hHeld => ?_); refine with_tabW impl_PutVersion.tab1 impl_PutVersion.bits1 (fun HT_ HW_ => ?_)
  generalize w57.drew = w58 at BK340 BK341 HB hHeld ⊢
  refine pV_ 0 16 (bm 14 1) HT_.out ?_
  refine pV_ 1 17 (bm 14 3) HT_.out ?_
  refine pV_ 5 21 (bm 14 35) HT_.out ?_
  refine pV_ 6 22 (bm 14 99) HT_.out ?_
  refine pV_ 8 24 (bm 14 355) HT_.out ?_
  refine take_ (i:=7) (N:=some 23) (v:=?_) (a':=?_) (bm 14 483) rfl rfl (take_ofW HT_.out HW_.out (by kernel_rfl)) (fun _ _ _ h => h) (Or.inl ⟨by rfl,?_⟩) hHeld ?_ ?_
  rotate_left
  ·rintro w' ⟨s0,s1⟩
   go_simp
   with_reducible rfl
  rotate_left
  ·simp only [Act.put,setIfInBounds_toArray,set_cons_zero,set_cons_succ,i64_w,i32_w]
   rfl
  refine one_ (i:=2) (N:=some 18) (bm 14 487) rfl rfl (one_of HT_.out (by kernel_rfl)) (by decide) (fun K hK => ?_)
  refine Kd.R_lit_step Kd.string _ 9 ?hg (N:=18) ?hd (xs := ([a1,a3] : List ByteArray)) (inner := [.string a1,.string a3]) (ok := fun _ => True) (okp := fun _ => True) ?hr ?hp (fun _ hk => hk) trivial (Below.refl _ _) (Nat.le_refl _) (by simp) ?_; (case hd => rfl); (case hg => rfl); (case hr => first | (go_simp; done) | (go_simp; rfl)); (case hp => exact (Reps.one (show Kd.M Kd.string _ _ _ a1 [.string a1] from rfl) (Reps.one (show Kd.M Kd.string _ _ _ a3 [.string a3] from rfl) (Reps.none _ _))))
  intro v343 w59 ho60 hb hg_ hnew_
  clear hg_ hnew_
  (first | rw [← Ny342.out] at ho60 | (simp only [Int.reduceToNat] at ho60; rw [← Ny342.out] at ho60))
  have n0_ := Aside0.mk (Kd.R_lower ho60 (below_size bA))
  have n1_ := Aside0.mk (blk_below (g:=gb340) (o:=.cells #[.slice A0_0 l0_0.length c0_0,.int .i64 a0_1] 28 (0,0)) (kA BK340.out) hb)
  have n2_ := Aside0.mk (blk_below (g:=gb341) (o:=.cells #[.slice none 0 0,.int .i64 0] 28 (0,0)) (kA BK341.out) hb)
  have n3_ := Aside0.mk (below_step bA hb)
  clear BK340
  clear BK341
  clear HB
  have HO344 := n0_
  have BK340 := n1_
  have BK341 := n2_
  have HB := n3_
  clear n0_ n1_ n2_ n3_
  clear hb ho60
  obtain ⟨Ao61,co61,eo61⟩ := Kd.R_slice HO344.out
  (first | subst eo61 | (injection eo61 with f1_ f2_ f3_; have f4_ := f1_.symm; have f5_ := f3_.symm; clear f1_ f2_ f3_; subst f4_; subst f5_))
  refine hK.out _ _ ⟨(blk_cell BK340.out 0).trans rfl,(blk_cell BK340.out 1).trans rfl⟩ (fun hHeld => ?_)
  clear hK K
  refine norm_ (a':=?_) ?_ ?_
  rotate_left
  ·show Act.put _ (some 18) _ = _
   simp only [Act.put,setIfInBounds_toArray,set_cons_zero,set_cons_succ,i64_w,i32_w]
   rfl
  refine one_ (i:=3) (N:=some 19) (bm 14 495) rfl rfl (one_of HT_.out (by kernel_rfl)) (by decide) (fun K hK => ?_)
  refine goes_ Try.func29 (by kernel_rfl) rfl #[.slice Ao61 y342.length co61] (by rfl) rfl rfl mA ?_
  with_reducible refine (impl_isLong.calls _ _ y342 t345 _ ?side1 ?side2 A5.out).mono ?_
  (case side1 => repeat (first | exact (Kd.R_reads' HO344.out).2.2 | (with_reducible refine Kd.C_alloc ?_ _) | (with_reducible refine Kd.C_drewN ?_ _) | (with_reducible refine Kd.C_drew ?_)))
  (case side2 => exact (Kd.R_reads' HO344.out).2.1)
  rintro e w62 ⟨rfl,hb⟩
  refine ⟨_,rfl,?_⟩
  have n0_ := Aside0.mk (Kd.R_below (rA HO344.out) hb)
  have n1_ := Aside0.mk (blk_below (g:=gb340) (o:=.cells #[.slice A0_0 l0_0.length c0_0,.int .i64 a0_1] 28 (0,0)) (kA BK340.out) hb)
  have n2_ := Aside0.mk (blk_below (g:=gb341) (o:=.cells #[.slice none 0 0,.int .i64 0] 28 (0,0)) (kA BK341.out) hb)
  have n3_ := Aside0.mk (below_step bA hb)
  clear HO344
  clear BK340
  clear BK341
  clear HB
  have HO344 := n0_
  have BK340 := n1_
  have BK341 := n2_
  have HB := n3_
  clear n0_ n1_ n2_ n3_
  (try clear hb)
  (try clear hb2)
  (try clear hk)
  (try clear hi)
  refine hK.out _ _ ⟨(blk_cell BK340.out 0).trans rfl,(blk_cell BK340.out 1).trans rfl⟩ (fun hHeld => ?_)
  clear hK K
  refine norm_ (a':=?_) ?_ ?_
  rotate_left
  ·show Act.put _ (some 19) _ = _
   simp only [Act.put,setIfInBounds_toArray,set_cons_zero,set_cons_succ,i64_w,i32_w]
   rfl
  refine pV_ 4 20 (bm 14 511) HT_.out ?_
  refine one_ (i:=9) (N:=some 25) (bm 14 1023) rfl rfl (one_of HT_.out (by kernel_rfl)) (by decide) (fun K hK => ?_)
  refine goes_ Try.func30 (by kernel_rfl) rfl #[.agg #[.slice A0_0 l0_0.length c0_0,.int .i64 a0_1],.string a1] (by rfl) rfl rfl mA ?_
  with_reducible refine (impl_storeCode.calls k _ _ l0_0 a0_1 a1 t346 _ ?side1 ?side2 A6.out).mono ?_
  (case side1 => repeat (first | exact (Kd.C_below HR0_0.out HB.out) | (with_reducible refine Kd.C_alloc ?_ _) | (with_reducible refine Kd.C_drewN ?_ _) | (with_reducible refine Kd.C_drew ?_)))
  (case side2 => exact HC0_0.out)
  rintro e w63 ⟨rfl,hb⟩
  refine ⟨_,rfl,?_⟩
  have n0_ := Aside0.mk (Kd.R_below (rA HO344.out) hb)
  have n1_ := Aside0.mk (blk_below (g:=gb340) (o:=.cells #[.slice A0_0 l0_0.length c0_0,.int .i64 a0_1] 28 (0,0)) (kA BK340.out) hb)
  have n2_ := Aside0.mk (blk_below (g:=gb341) (o:=.cells #[.slice none 0 0,.int .i64 0] 28 (0,0)) (kA BK341.out) hb)
  have n3_ := Aside0.mk (below_step bA hb)
  clear HO344
  clear BK340
  clear BK341
  clear HB
  have HO344 := n0_
  have BK340 := n1_
  have BK341 := n2_
  have HB := n3_
  clear n0_ n1_ n2_ n3_
  (try clear hb)
  (try clear hb2)
  (try clear hk)
  (try clear hi)
  refine hK.out _ _ ⟨(blk_cell BK340.out 0).trans rfl,(blk_cell BK340.out 1).trans rfl⟩ (fun hHeld => ?_)
  clear hK K
  refine norm_ (a':=?_) ?_ ?_
  rotate_left
  ·show Act.put _ (some 25) _ = _
   simp only [Act.put,setIfInBounds_toArray,set_cons_zero,set_cons_succ,i64_w,i32_w]
   rfl
  refine pV_ 10 26 (bm 14 2047) HT_.out ?_
  refine one_ (i:=11) (N:=some 27) (bm 14 4095) rfl rfl (one_of HT_.out (by kernel_rfl)) (by decide) (fun K hK => ?_)
  refine Kd.R_lit_step kAny _ 20 ?hg (N:=27) ?hd (xs := ([anyB t345,anyI 2,anyB true,anyI t346] : List AnyV)) (inner := [.iface 4 (.bool t345),.iface 3 (.int .i64 2),.iface 4 (.bool true),.iface 3 (.int .i64 t346)]) (ok := fun _ => True) (okp := fun _ => True) ?hr ?hp (fun _ hk => hk) trivial (Below.refl _ _) (Nat.le_refl _) (by simp) ?_; (case hd => rfl); (case hg => rfl); (case hr => first | (go_simp; done) | (go_simp; rfl)); (case hp => exact (Reps.one (show Kd.M kAny _ _ _ (anyB t345) [.iface 4 (.bool t345)] from rfl) (Reps.one (show Kd.M kAny _ _ _ (anyI 2) [.iface 3 (.int .i64 2)] from rfl) (Reps.one (show Kd.M kAny _ _ _ (anyB true) [.iface 4 (.bool true)] from rfl) (Reps.one (show Kd.M kAny _ _ _ (anyI t346) [.iface 3 (.int .i64 t346)] from rfl) (Reps.none _ _))))))
  intro v348 w64 ho65 hb hg_ hnew_
  clear hg_ hnew_
  (first | rw [← Ny347.out] at ho65 | (simp only [Int.reduceToNat] at ho65; rw [← Ny347.out] at ho65))
  have n0_ := Aside0.mk (Kd.R_below (rA HO344.out) hb)
  have n1_ := Aside0.mk (Kd.R_lower ho65 (below_size bA))
  have n2_ := Aside0.mk (blk_below (g:=gb340) (o:=.cells #[.slice A0_0 l0_0.length c0_0,.int .i64 a0_1] 28 (0,0)) (kA BK340.out) hb)
  have n3_ := Aside0.mk (blk_below (g:=gb341) (o:=.cells #[.slice none 0 0,.int .i64 0] 28 (0,0)) (kA BK341.out) hb)
  have n4_ := Aside0.mk (below_step bA hb)
  clear HO344
  clear BK340
  clear BK341
  clear HB
  have HO344 := n0_
  have HO349 := n1_
  have BK340 := n2_
  have BK341 := n3_
  have HB := n4_
  clear n0_ n1_ n2_ n3_ n4_
  clear hb ho65
  obtain ⟨Ao66,co66,eo66⟩ := Kd.R_slice HO349.out
  (first | subst eo66 | (injection eo66 with f1_ f2_ f3_; have f4_ := f1_.symm; have f5_ := f3_.symm; clear f1_ f2_ f3_; subst f4_; subst f5_))
  refine hK.out _ _ ⟨(blk_cell BK340.out 0).trans rfl,(blk_cell BK340.out 1).trans rfl⟩ (fun hHeld => ?_)
  clear hK K
  refine norm_ (a':=?_) ?_ ?_
  rotate_left
  ·show Act.put _ (some 27) _ = _
   simp only [Act.put,setIfInBounds_toArray,set_cons_zero,set_cons_succ,i64_w,i32_w]
   rfl
  refine one_ (i:=12) (N:=some 28) (bm 14 8191) rfl rfl (one_of HT_.out (by kernel_rfl)) (by decide) (fun K hK => ?_)
  refine goes_ Try.func28 (by kernel_rfl) rfl #[.slice Ao66 y347.length co66] (by rfl) rfl rfl mA ?_
  with_reducible refine (impl_first.calls k _ _ y347 t350 _ ?side1 ?side2 A7.out).mono ?_
  (case side1 => repeat (first | exact (Kd.R_reads' HO349.out).2.2 | (with_reducible refine Kd.C_alloc ?_ _) | (with_reducible refine Kd.C_drewN ?_ _) | (with_reducible refine Kd.C_drew ?_)))
  (case side2 => exact (Kd.R_reads' HO349.out).2.1)
  rintro e w' ⟨rfl,⟨nd,rfl⟩⟩
  refine ⟨_,rfl,?_⟩
  refine hK.out _ _ ⟨(blk_cell BK340.out 0).trans rfl,(blk_cell BK340.out 1).trans rfl⟩ (fun hHeld => ?_)
  clear hK K
  refine norm_ (a':=?_) ?_ ?_
  rotate_left
  ·show Act.put _ (some 28) _ = _
   simp only [Act.put,setIfInBounds_toArray,set_cons_zero,set_cons_succ,i64_w,i32_w]
   rfl
  refine pV_ 13 11 (bm 14 16383) HT_.out ?_
  refine done_ (done_of HT_.out (by kernel_rfl)) ?_
  have hnb67 := NB341_340.out
  have hnc67 := NB340_341.out
  have hcz68_0 : w64.cell? ⟨gb341,0,none⟩ = some (.slice none 0 0) := (blk_cell BK341.out 0).trans rfl
  have hcz68_1 : w64.cell? ⟨gb341,1,none⟩ = some (.int .i64 0) := (blk_cell BK341.out 1).trans rfl
  have hfz68_0 := blk_frozen BK341.out 0
  have hfz68_1 := blk_frozen BK341.out 1
  try go_wp2
  refine bodyPost_ret (results_ctt rfl _ _ gb341 28 #[.slice none 0 0,.int .i64 0] (0,0) _ rfl (by (with_reducible repeat (first | refine blk_drewN ?_ _ | refine blk_drew ?_ | refine blk_alloc ?_ _)); refine blk_put (cs := #[.slice none 0 0,.int .i64 0]) ?_ 1 _ rfl; (with_reducible repeat (first | refine blk_drewN ?_ _ | refine blk_drew ?_ | refine blk_alloc ?_ _)); refine blk_put (cs := #[.slice none 0 0,.int .i64 0]) ?_ 0 _ rfl; (with_reducible repeat (first | refine blk_drewN ?_ _ | refine blk_drew ?_ | refine blk_alloc ?_ _)); exact BK341.out) Try.underlying28 rfl (by kernel_rfl)) rfl ?_
  exact ⟨_,by first | rfl | (simp [errW_none,errW_some] <;> rfl) | (simp [*,errW_none,errW_some] <;> rfl),by first | exact Kd.R_nil _ _ _ _ _ | exact Kd.N_nil _ _ _ _ _ | exact Kd.V_nil _ _ _ _ _ | exact Kd.Q_nil _ _ _ _ _ | exact Kd.S_nil _ _ _ _ _,bA⟩

end Go.Proofs.Ytbodkbaniebfaaa.XFnExactPutVersion
