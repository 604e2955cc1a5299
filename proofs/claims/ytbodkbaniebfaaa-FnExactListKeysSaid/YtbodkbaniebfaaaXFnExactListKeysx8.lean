-- Printed by this session's own program wip/tools/xprint.py, which widens the kit's print. Not trusted: Lean checks it.
import Derived.Test.YtbodkbaniebfaaaXFnExactListKeysx0
import Derived.Test.YtbodkbaniebfaaaXFnExactListKeysx4
import Derived.Test.YtbodkbaniebfaaaXFnExactListKeysx6
import Derived.Test.YtbodkbaniebfaaaXFnExactListKeysx7
namespace Go.Proofs.Ytbodkbaniebfaaa.XFnExactListKeys
open List (setIfInBounds_toArray set_cons_zero set_cons_succ)
open Go.RowKit Go.Proofs.YtbodkbaniebfaaaW.PrintWords Go.Proofs.YtbodkbaniebfaaaW.PrintLast Go.Proofs.YtbodkbaniebfaaaW.PrintMore
attribute [local go_sem] max2_int min2_int max_two min_two max_three min_three max_four min_four   -- for this text's walks alone
set_option linter.unusedVariables false
set_option linter.unusedSimpArgs false

/-! ### impl_ListKeys: function 15 -/
def impl_ListKeys.f (k : Nat) (l0_0 : List (S71)) (a0_1 : Int) (a1 : ByteArray) (a2 : ByteArray) (a3 : Int) : Option (List ByteArray × Int) := (impl_isLong.f (([a1,a2] : List ByteArray))).bind fun t211 => ((impl_StoreOK.f k l0_0 a0_1).bind fun t212 => ((impl_within.f a3 0 300).bind fun t213 => ((impl_first.f k (([anyB t211,anyI 2,anyB (!t212),anyI 1,anyB (!t213),anyI 4] : List AnyV))).bind fun t217 => (if t217 = 0 then ((impl_Store_keys.f k l0_0 a0_1 a1).bind fun t218 => ((slices_DeleteFunc_string_string.f t218 a2).bind fun t221 => (if 0 ≤ (mn a3 (t221.length : Int)) then (if (mn a3 (t221.length : Int)) ≤ (t221.length : Int) then ((slices_Clone_string_string.f (t221.take ((mn a3 (t221.length : Int)) : Int).toNat)).bind fun t228 => (some (t228,0))) else (none)) else (none)))) else (some (([] : List ByteArray),t217))))))
theorem impl_ListKeys.mono : ∀ a0 a1 a2 a3 a4 k,LeO (impl_ListKeys.f k a0 a1 a2 a3 a4) (impl_ListKeys.f (k + 1) a0 a1 a2 a3 a4) := by
 intro a0 a1 a2 a3 a4 k
 unfold impl_ListKeys.f
 repeat' first
   | (with_reducible exact impl_StoreOK.mono _ _ _)
   | (with_reducible exact impl_Store_keys.mono _ _ _ _)
   | (with_reducible exact impl_first.mono _ _)
   | (with_reducible exact LeO.refl _)
   | (with_reducible exact LeO.none _)
   | (with_reducible refine LeO.ite ?_ ?_)
   | (with_reducible refine LeO.bind ?_ (fun _ => ?_))
   | exact impl_StoreOK.mono _ _ _
   | exact impl_Store_keys.mono _ _ _ _
   | exact impl_first.mono _ _
   | exact LeO.none _
   | refine LeO.ite ?_ ?_
   | refine LeO.bind ?_ (fun _ => ?_)
def impl_ListKeys.T1 : Bool × List (List Nat × List Nat) := (true,[([],[]),([],[]),([0,1],[0,1]),([2],[2]),([3],[3]),([],[]),([],[]),([6,3],[6]),([7],[7]),([8],[8]),([],[]),([],[]),([11,7],[11]),([12],[12]),([13],[13]),([],[]),([4,5,9,10,14,15],[4,5,9,10,14,15]),([16,12],[16]),([17,17,0,1,2,3,4,5,6,7,8,9,10,11,12,13,14,15,16,17],[17])])
def impl_ListKeys.B1 : List Nat := [0,0,3,7,15,0,0,79,207,463,0,0,2255,6351,14543,0,65535,131071,262143]
theorem impl_ListKeys.tab1 : rtab .any (opsOf Try.f15 1) = impl_ListKeys.T1 := by kernel_rfl
theorem impl_ListKeys.bits1 : waitsOk impl_ListKeys.T1.2 impl_ListKeys.B1 = true := by kernel_rfl
set_option maxHeartbeats 8000000 in
set_option maxRecDepth 100000 in
theorem impl_ListKeys.calls (k : Nat) (A0_0 : Option Addr) (c0_0 : Nat) (l0_0 : List (S71)) (a0_1 : Int) (a1 : ByteArray) (a2 : ByteArray) (a3 : Int) (r1 : List ByteArray) (r2 : Int) (w : World) (hr0_0 : Kd.C k71 w A0_0 l0_0.length l0_0) (hc0_0 : l0_0.length ≤ c0_0) (h : impl_ListKeys.f k l0_0 a0_1 a1 a2 a3 = some (r1,r2)) :
  Calls Try.prog 15 #[.agg #[.slice A0_0 l0_0.length c0_0,.int .i64 a0_1],.string a1,.string a2,.int .i64 a3] w fun e w' => ∃ v0_ : Value,e = .returned (.tuple #[v0_,.int .i64 r2]) ∧ Kd.R Kd.string 9 w' w.heap.size (fun _ => True) v0_ r1 ∧ Below w.heap.size w w' := by
 have hu28 := Try.underlying28
 have hua20 := Try.underlying20
 have HR0_0 := Aside0.mk hr0_0
 have HC0_0 := Aside0.mk hc0_0
 clear hr0_0 hc0_0
 have HB := Aside0.mk (Below.refl w.heap.size w)
 have H : ((impl_isLong.f (([a1,a2] : List ByteArray))).bind fun t211 => ((impl_StoreOK.f k l0_0 a0_1).bind fun t212 => ((impl_within.f a3 0 300).bind fun t213 => ((impl_first.f k (([anyB t211,anyI 2,anyB (!t212),anyI 1,anyB (!t213),anyI 4] : List AnyV))).bind fun t217 => (if t217 = 0 then ((impl_Store_keys.f k l0_0 a0_1 a1).bind fun t218 => ((slices_DeleteFunc_string_string.f t218 a2).bind fun t221 => (if 0 ≤ (mn a3 (t221.length : Int)) then (if (mn a3 (t221.length : Int)) ≤ (t221.length : Int) then ((slices_Clone_string_string.f (t221.take ((mn a3 (t221.length : Int)) : Int).toNat)).bind fun t228 => (some (t228,0))) else (none)) else (none)))) else (some (([] : List ByteArray),t217))))))) = some (r1,r2) := h
 clear h
 obtain ⟨y208,hy208⟩ : ∃ y_ : List ByteArray,y_ = (([a1,a2] : List ByteArray)) := ⟨_,rfl⟩
 replace H : ((impl_isLong.f y208).bind fun t211 => ((impl_StoreOK.f k l0_0 a0_1).bind fun t212 => ((impl_within.f a3 0 300).bind fun t213 => ((impl_first.f k (([anyB t211,anyI 2,anyB (!t212),anyI 1,anyB (!t213),anyI 4] : List AnyV))).bind fun t217 => (if t217 = 0 then ((impl_Store_keys.f k l0_0 a0_1 a1).bind fun t218 => ((slices_DeleteFunc_string_string.f t218 a2).bind fun t221 => (if 0 ≤ (mn a3 (t221.length : Int)) then (if (mn a3 (t221.length : Int)) ≤ (t221.length : Int) then ((slices_Clone_string_string.f (t221.take ((mn a3 (t221.length : Int)) : Int).toNat)).bind fun t228 => (some (t228,0))) else (none)) else (none)))) else (some (([] : List ByteArray),t217))))))) = some (r1,r2) := by first | (rw [hy208]; with_reducible exact H) | (have H2_ := (Option.bind_some _ _).symm.trans H; rw [hy208]; with_reducible exact H2_) | (have H2_ := (Option.bind_some _ _).symm.trans H; with_reducible exact H2_) | with_reducible exact H | (rw [hy208]; exact H) | exact H
 have Ny208 := Aside0.mk hy208
 clear hy208
 replace H := Option.bind_eq_some_iff.mp H
 obtain ⟨t211,A50,H⟩ := H
 try dsimp only at H
 have A5 := Aside0.mk A50
 clear A50
 replace H := Option.bind_eq_some_iff.mp H
 obtain ⟨t212,A60,H⟩ := H
 try dsimp only at H
 have A6 := Aside0.mk A60
 clear A60
 replace H := Option.bind_eq_some_iff.mp H
 obtain ⟨t213,A70,H⟩ := H
 try dsimp only at H
 have A7 := Aside0.mk A70
 clear A70
 obtain ⟨y214,hy214⟩ : ∃ y_ : List AnyV,y_ = (([anyB t211,anyI 2,anyB (!t212),anyI 1,anyB (!t213),anyI 4] : List AnyV)) := ⟨_,rfl⟩
 replace H : ((impl_first.f k y214).bind fun t217 => (if t217 = 0 then ((impl_Store_keys.f k l0_0 a0_1 a1).bind fun t218 => ((slices_DeleteFunc_string_string.f t218 a2).bind fun t221 => (if 0 ≤ (mn a3 (t221.length : Int)) then (if (mn a3 (t221.length : Int)) ≤ (t221.length : Int) then ((slices_Clone_string_string.f (t221.take ((mn a3 (t221.length : Int)) : Int).toNat)).bind fun t228 => (some (t228,0))) else (none)) else (none)))) else (some (([] : List ByteArray),t217)))) = some (r1,r2) := by first | (rw [hy214]; with_reducible exact H) | (have H2_ := (Option.bind_some _ _).symm.trans H; rw [hy214]; with_reducible exact H2_) | (have H2_ := (Option.bind_some _ _).symm.trans H; with_reducible exact H2_) | with_reducible exact H | (rw [hy214]; exact H) | exact H
 have Ny214 := Aside0.mk hy214
 clear hy214
 replace H := Option.bind_eq_some_iff.mp H
 obtain ⟨t217,A80,H⟩ := H
 try dsimp only at H
 have A8 := Aside0.mk A80
 clear A80
 by_cases c9 : t217 = 0
 ·rw [if_pos c9] at H
  have c9b0 : (t217 == 0) = true := beq_iff_eq.mpr c9
  have c9b1 : (t217 != 0) = false := bne_eq_false_iff_eq.mpr c9
  clear c9
  replace H := Option.bind_eq_some_iff.mp H
  obtain ⟨t218,A100,H⟩ := H
  try dsimp only at H
  have A10 := Aside0.mk A100
  clear A100
  replace H := Option.bind_eq_some_iff.mp H
  obtain ⟨t221,A110,H⟩ := H
  try dsimp only at H
  have A11 := Aside0.mk A110
  clear A110
  obtain ⟨ji12,hji12⟩ : ∃ j_ : Int,(mn a3 (t221.length : Int)) = j_ := ⟨_,rfl⟩
  replace H : (if 0 ≤ (ji12) then (if (ji12) ≤ (t221.length : Int) then ((slices_Clone_string_string.f (t221.take ((ji12) : Int).toNat)).bind fun t228 => (some (t228,0))) else (none)) else (none)) = some (r1,r2) := by first | (rw [hji12] at H; exact H) | (simp only [hji12] at H ⊢; exact H)
  (try rw [hji12] at A5)
  (try rw [hji12] at A6)
  (try rw [hji12] at A7)
  (try rw [hji12] at A8)
  (try rw [hji12] at A10)
  (try rw [hji12] at A11)
  have hji12_ : (if (t221.length : Int) < a3 then (t221.length : Int) else a3) = ji12 := hji12
  by_cases c13 : 0 ≤ (ji12)
  ·rw [if_pos c13] at H
   have c13b0 := eq_true c13
   have c13b1 : decide (0 ≤ (ji12)) = true := decide_eq_true c13
   clear c13
   by_cases c14 : (ji12) ≤ (t221.length : Int)
   ·rw [if_pos c14] at H
    have c14b0 := eq_true c14
    have c14b1 : decide ((ji12) ≤ (t221.length : Int)) = true := decide_eq_true c14
    clear c14
    obtain ⟨y224,hy224⟩ : ∃ y_ : List ByteArray,y_ = (t221.take ((ji12) : Int).toNat) := ⟨_,rfl⟩
    replace H : ((slices_Clone_string_string.f y224).bind fun t228 => (some (t228,0))) = some (r1,r2) := by first | (rw [hy224]; with_reducible exact H) | (have H2_ := (Option.bind_some _ _).symm.trans H; rw [hy224]; with_reducible exact H2_) | (have H2_ := (Option.bind_some _ _).symm.trans H; with_reducible exact H2_) | with_reducible exact H | (rw [hy224]; exact H) | exact H
    have Ny224 := Aside0.mk hy224
    clear hy224
    replace H := Option.bind_eq_some_iff.mp H
    obtain ⟨t228,A150,H⟩ := H
    try dsimp only at H
    have A15 := Aside0.mk A150
    clear A150
    simp only [Option.some.injEq,Prod.mk.injEq] at H
    obtain ⟨rfl,rfl⟩ := H
    go_enter Try.func15,Try.ntmps15
    try go_wp2_with (first | ((with_reducible refine gate_dst (N:=4) rfl ?_); refine box_event ?hg (N:=4) ?hd (cs := #[.slice A0_0 l0_0.length c0_0,.int .i64 a0_1]) (t:=28) ?hr ?_; (case hd => rfl); (case hg => rfl); (case hr => first | (go_simp; done) | (go_simp; rfl)); intro gb206 hg w16 hbox hb; have n0_ := Aside0.mk (below_step bA hb); have n1_ := Aside0.mk (hbox); have n2_ := Aside0.mk ((by rw [hg]; exact (below_size bA) : w.heap.size ≤ gb206)); have n3_ := Aside0.mk ((by rw [hg]; exact (below_size bA) : w.heap.size ≤ gb206)); clear HB; have HB := n0_; have BK206 := n1_; have GW206 := n2_; have GE206 := n3_; clear n0_ n1_ n2_ n3_; clear hb hbox hg) | ((with_reducible refine gate_dst (N:=6) rfl ?_); refine box_event ?hg (N:=6) ?hd (cs := #[.string a2]) (t:=9) ?hr ?_; (case hd => rfl); (case hg => rfl); (case hr => first | (go_simp; done) | (go_simp; rfl)); intro gb207 hg w17 hbox hb; have n0_ := Aside0.mk (blk_below (g:=gb206) (o:=.cells #[.slice A0_0 l0_0.length c0_0,.int .i64 a0_1] 28 (0,0)) (kA BK206.out) hb); have n1_ := Aside0.mk (below_step bA hb); have n2_ := Aside0.mk (hbox); have n3_ := Aside0.mk ((by rw [hg]; exact (below_size bA) : w.heap.size ≤ gb207)); have n4_ := Aside0.mk ((by rw [hg]; exact (below_size bA) : w.heap.size ≤ gb207)); have n5_ := Aside0.mk ((by rw [hg]; exact Nat.ne_of_lt (blk_lt (g:=gb206) (o:=.cells #[.slice A0_0 l0_0.length c0_0,.int .i64 a0_1] 28 (0,0)) (kA BK206.out)) : gb206 ≠ gb207)); have n6_ := Aside0.mk ((by rw [hg]; exact Nat.ne_of_gt (blk_lt (g:=gb206) (o:=.cells #[.slice A0_0 l0_0.length c0_0,.int .i64 a0_1] 28 (0,0)) (kA BK206.out)) : gb207 ≠ gb206)); clear BK206; clear HB; have BK206 := n0_; have HB := n1_; have BK207 := n2_; have GW207 := n3_; have GE207 := n4_; have NB206_207 := n5_; have NB207_206 := n6_; clear n0_ n1_ n2_ n3_ n4_ n5_ n6_; clear hb hbox hg))
    have n0_ := Aside0.mk (blk_drew BK206.out)
    have n1_ := Aside0.mk (blk_drew BK207.out)
    have n2_ := Aside0.mk (below_drew1 HB.out)
    clear BK206
    clear BK207
    clear HB
    have BK206 := n0_
    have BK207 := n1_
    have HB := n2_
    clear n0_ n1_ n2_
    refine start_ (n:=19) (S:=fun w' => w'.cell? ⟨gb207,0,none⟩ = some (.string a2) ∧ w'.cell? ⟨gb206,0,none⟩ = some (.slice A0_0 l0_0.length c0_0) ∧ w'.cell? ⟨gb206,1,none⟩ = some (.int .i64 a0_1)) (ds := []) (bm 19 0) (by kernel_rfl) rfl rfl ⟨(blk_cell BK207.out 0).trans rfl,(blk_cell BK206.out 0).trans rfl,(blk_cell BK206.out 1).trans rfl⟩ (fun hHeld => ?_); refine with_tabW impl_ListKeys.tab1 impl_ListKeys.bits1 (fun HT_ HW_ => ?_)
    generalize w17.drew = w18 at BK206 BK207 HB hHeld ⊢
    refine pV_ 0 12 (bm 19 1) HT_.out ?_
    refine pV_ 5 17 (bm 19 33) HT_.out ?_
    refine pV_ 10 22 (bm 19 1057) HT_.out ?_
    refine pV_ 11 23 (bm 19 3105) HT_.out ?_
    refine pV_ 15 27 (bm 19 35873) HT_.out ?_
    refine take_ (i:=1) (N:=some 13) (v:=?_) (a':=?_) (bm 19 35875) rfl rfl (take_ofW HT_.out HW_.out (by kernel_rfl)) (fun _ _ _ h => h) (Or.inl ⟨by rfl,?_⟩) hHeld ?_ ?_
    rotate_left
    ·rintro w' ⟨s0,s1,s2⟩
     go_simp
     with_reducible rfl
    rotate_left
    ·simp only [Act.put,setIfInBounds_toArray,set_cons_zero,set_cons_succ,i64_w,i32_w]
     rfl
    refine take_ (i:=6) (N:=some 18) (v:=?_) (a':=?_) (bm 19 35939) rfl rfl (take_ofW HT_.out HW_.out (by kernel_rfl)) (fun _ _ _ h => h) (Or.inl ⟨by rfl,?_⟩) hHeld ?_ ?_
    rotate_left
    ·rintro w' ⟨s0,s1,s2⟩
     go_simp
     with_reducible rfl
    rotate_left
    ·simp only [Act.put,setIfInBounds_toArray,set_cons_zero,set_cons_succ,i64_w,i32_w]
     rfl
    refine one_ (i:=2) (N:=some 14) (bm 19 35943) rfl rfl (one_of HT_.out (by kernel_rfl)) (by decide) (fun K hK => ?_)
    refine Kd.R_lit_step Kd.string _ 9 ?hg (N:=14) ?hd (xs := ([a1,a2] : List ByteArray)) (inner := [.string a1,.string a2]) (ok := fun _ => True) (okp := fun _ => True) ?hr ?hp (fun _ hk => hk) trivial (Below.refl _ _) (Nat.le_refl _) (by simp) ?_; (case hd => rfl); (case hg => rfl); (case hr => first | (go_simp; done) | (go_simp; rfl)); (case hp => exact (Reps.one (show Kd.M Kd.string _ _ _ a1 [.string a1] from rfl) (Reps.one (show Kd.M Kd.string _ _ _ a2 [.string a2] from rfl) (Reps.none _ _))))
    intro v209 w19 ho20 hb hg_ hnew_
    clear hg_ hnew_
    (first | rw [← Ny208.out] at ho20 | (simp only [Int.reduceToNat] at ho20; rw [← Ny208.out] at ho20))
    have n0_ := Aside0.mk (Kd.R_lower (Kd.R_newB ho20 (g:=gb207) (o:=.cells #[.string a2] 9 (0,0)) (kA BK207.out)) (below_size bA))
    have n1_ := Aside0.mk (blk_below (g:=gb206) (o:=.cells #[.slice A0_0 l0_0.length c0_0,.int .i64 a0_1] 28 (0,0)) (kA BK206.out) hb)
    have n2_ := Aside0.mk (blk_below (g:=gb207) (o:=.cells #[.string a2] 9 (0,0)) (kA BK207.out) hb)
    have n3_ := Aside0.mk (below_step bA hb)
    clear BK206
    clear BK207
    clear HB
    have HO210 := n0_
    have BK206 := n1_
    have BK207 := n2_
    have HB := n3_
    clear n0_ n1_ n2_ n3_
    clear hb ho20
    obtain ⟨Ao21,co21,eo21⟩ := Kd.R_slice HO210.out
    (first | subst eo21 | (injection eo21 with f1_ f2_ f3_; have f4_ := f1_.symm; have f5_ := f3_.symm; clear f1_ f2_ f3_; subst f4_; subst f5_))
    refine hK.out _ _ ⟨(blk_cell BK207.out 0).trans rfl,(blk_cell BK206.out 0).trans rfl,(blk_cell BK206.out 1).trans rfl⟩ (fun hHeld => ?_)
    clear hK K
    refine norm_ (a':=?_) ?_ ?_
    rotate_left
    ·show Act.put _ (some 14) _ = _
     simp only [Act.put,setIfInBounds_toArray,set_cons_zero,set_cons_succ,i64_w,i32_w]
     rfl
    refine one_ (i:=3) (N:=some 15) (bm 19 35951) rfl rfl (one_of HT_.out (by kernel_rfl)) (by decide) (fun K hK => ?_)
    refine goes_ Try.func29 (by kernel_rfl) rfl #[.slice Ao21 y208.length co21] (by rfl) rfl rfl mA ?_
    with_reducible refine (impl_isLong.calls _ _ y208 t211 _ ?side1 ?side2 A5.out).mono ?_
    (case side1 => repeat (first | exact (Kd.R_reads' HO210.out).2.2 | (with_reducible refine Kd.C_alloc ?_ _) | (with_reducible refine Kd.C_drewN ?_ _) | (with_reducible refine Kd.C_drew ?_)))
    (case side2 => exact (Kd.R_reads' HO210.out).2.1)
    rintro e w22 ⟨rfl,hb⟩
    refine ⟨_,rfl,?_⟩
    have n0_ := Aside0.mk (Kd.R_below (rA HO210.out) hb)
    have n1_ := Aside0.mk (blk_below (g:=gb206) (o:=.cells #[.slice A0_0 l0_0.length c0_0,.int .i64 a0_1] 28 (0,0)) (kA BK206.out) hb)
    have n2_ := Aside0.mk (blk_below (g:=gb207) (o:=.cells #[.string a2] 9 (0,0)) (kA BK207.out) hb)
    have n3_ := Aside0.mk (below_step bA hb)
    clear HO210
    clear BK206
    clear BK207
    clear HB
    have HO210 := n0_
    have BK206 := n1_
    have BK207 := n2_
    have HB := n3_
    clear n0_ n1_ n2_ n3_
    (try clear hb)
    (try clear hb2)
    (try clear hk)
    (try clear hi)
    refine hK.out _ _ ⟨(blk_cell BK207.out 0).trans rfl,(blk_cell BK206.out 0).trans rfl,(blk_cell BK206.out 1).trans rfl⟩ (fun hHeld => ?_)
    clear hK K
    refine norm_ (a':=?_) ?_ ?_
    rotate_left
    ·show Act.put _ (some 15) _ = _
     simp only [Act.put,setIfInBounds_toArray,set_cons_zero,set_cons_succ,i64_w,i32_w]
     rfl
    refine pV_ 4 16 (bm 19 35967) HT_.out ?_
    refine one_ (i:=7) (N:=some 19) (bm 19 36095) rfl rfl (one_of HT_.out (by kernel_rfl)) (by decide) (fun K hK => ?_)
    refine goes_ Try.func40 (by kernel_rfl) rfl #[.agg #[.slice A0_0 l0_0.length c0_0,.int .i64 a0_1]] (by rfl) rfl rfl mA ?_
    with_reducible refine (impl_StoreOK.calls k _ _ l0_0 a0_1 t212 _ ?side1 ?side2 A6.out).mono ?_
    (case side1 => repeat (first | exact (Kd.C_below HR0_0.out HB.out) | (with_reducible refine Kd.C_alloc ?_ _) | (with_reducible refine Kd.C_drewN ?_ _) | (with_reducible refine Kd.C_drew ?_)))
    (case side2 => exact HC0_0.out)
    rintro e w23 ⟨rfl,hb⟩
    refine ⟨_,rfl,?_⟩
    have n0_ := Aside0.mk (Kd.R_below (rA HO210.out) hb)
    have n1_ := Aside0.mk (blk_below (g:=gb206) (o:=.cells #[.slice A0_0 l0_0.length c0_0,.int .i64 a0_1] 28 (0,0)) (kA BK206.out) hb)
    have n2_ := Aside0.mk (blk_below (g:=gb207) (o:=.cells #[.string a2] 9 (0,0)) (kA BK207.out) hb)
    have n3_ := Aside0.mk (below_step bA hb)
    clear HO210
    clear BK206
    clear BK207
    clear HB
    have HO210 := n0_
    have BK206 := n1_
    have BK207 := n2_
    have HB := n3_
    clear n0_ n1_ n2_ n3_
    (try clear hb)
    (try clear hb2)
    (try clear hk)
    (try clear hi)
    refine hK.out _ _ ⟨(blk_cell BK207.out 0).trans rfl,(blk_cell BK206.out 0).trans rfl,(blk_cell BK206.out 1).trans rfl⟩ (fun hHeld => ?_)
    clear hK K
    refine norm_ (a':=?_) ?_ ?_
    rotate_left
    ·show Act.put _ (some 19) _ = _
     simp only [Act.put,setIfInBounds_toArray,set_cons_zero,set_cons_succ,i64_w,i32_w]
     rfl
    refine pV_ 8 20 (bm 19 36351) HT_.out ?_
    refine pV_ 9 21 (bm 19 36863) HT_.out ?_
    refine one_ (i:=12) (N:=some 24) (bm 19 40959) rfl rfl (one_of HT_.out (by kernel_rfl)) (by decide) (fun K hK => ?_)
    refine goes_ Try.func41 (by kernel_rfl) rfl #[.int .i64 a3,.int .i64 0,.int .i64 300] (by rfl) rfl rfl mA ?_
    with_reducible refine (impl_within.calls a3 0 300 t213 _ A7.out).mono ?_
    rintro e w' ⟨rfl,⟨nd,rfl⟩⟩
    refine ⟨_,rfl,?_⟩
    refine hK.out _ _ ⟨(blk_cell BK207.out 0).trans rfl,(blk_cell BK206.out 0).trans rfl,(blk_cell BK206.out 1).trans rfl⟩ (fun hHeld => ?_)
    clear hK K
    refine norm_ (a':=?_) ?_ ?_
    rotate_left
    ·show Act.put _ (some 24) _ = _
     simp only [Act.put,setIfInBounds_toArray,set_cons_zero,set_cons_succ,i64_w,i32_w]
     rfl
    refine pV_ 13 25 (bm 19 49151) HT_.out ?_
    refine pV_ 14 26 (bm 19 65535) HT_.out ?_
    refine one_ (i:=16) (N:=some 28) (bm 19 131071) rfl rfl (one_of HT_.out (by kernel_rfl)) (by decide) (fun K hK => ?_)
    refine Kd.R_lit_step kAny _ 20 ?hg (N:=28) ?hd (xs := ([anyB t211,anyI 2,anyB (!t212),anyI 1,anyB (!t213),anyI 4] : List AnyV)) (inner := [.iface 4 (.bool t211),.iface 3 (.int .i64 2),.iface 4 (.bool (!t212)),.iface 3 (.int .i64 1),.iface 4 (.bool (!t213)),.iface 3 (.int .i64 4)]) (ok := fun _ => True) (okp := fun _ => True) ?hr ?hp (fun _ hk => hk) trivial (Below.refl _ _) (Nat.le_refl _) (by simp) ?_; (case hd => rfl); (case hg => rfl); (case hr => first | (go_simp; done) | (go_simp; rfl)); (case hp => exact (Reps.one (show Kd.M kAny _ _ _ (anyB t211) [.iface 4 (.bool t211)] from rfl) (Reps.one (show Kd.M kAny _ _ _ (anyI 2) [.iface 3 (.int .i64 2)] from rfl) (Reps.one (show Kd.M kAny _ _ _ (anyB (!t212)) [.iface 4 (.bool (!t212))] from rfl) (Reps.one (show Kd.M kAny _ _ _ (anyI 1) [.iface 3 (.int .i64 1)] from rfl) (Reps.one (show Kd.M kAny _ _ _ (anyB (!t213)) [.iface 4 (.bool (!t213))] from rfl) (Reps.one (show Kd.M kAny _ _ _ (anyI 4) [.iface 3 (.int .i64 4)] from rfl) (Reps.none _ _))))))))
    intro v215 w24 ho25 hb hg_ hnew_
    clear hg_ hnew_
    (first | rw [← Ny214.out] at ho25 | (simp only [Int.reduceToNat] at ho25; rw [← Ny214.out] at ho25))
    have n0_ := Aside0.mk (Kd.R_below (rA HO210.out) hb)
    have n1_ := Aside0.mk (Kd.R_lower ho25 (below_size bA))
    have n2_ := Aside0.mk (blk_below (g:=gb206) (o:=.cells #[.slice A0_0 l0_0.length c0_0,.int .i64 a0_1] 28 (0,0)) (kA BK206.out) hb)
    have n3_ := Aside0.mk (blk_below (g:=gb207) (o:=.cells #[.string a2] 9 (0,0)) (kA BK207.out) hb)
    have n4_ := Aside0.mk (below_step bA hb)
    clear HO210
    clear BK206
    clear BK207
    clear HB
    have HO210 := n0_
    have HO216 := n1_
    have BK206 := n2_
    have BK207 := n3_
    have HB := n4_
    clear n0_ n1_ n2_ n3_ n4_
    clear hb ho25
    obtain ⟨Ao26,co26,eo26⟩ := Kd.R_slice HO216.out
    (first | subst eo26 | (injection eo26 with f1_ f2_ f3_; have f4_ := f1_.symm; have f5_ := f3_.symm; clear f1_ f2_ f3_; subst f4_; subst f5_))
    refine hK.out _ _ ⟨(blk_cell BK207.out 0).trans rfl,(blk_cell BK206.out 0).trans rfl,(blk_cell BK206.out 1).trans rfl⟩ (fun hHeld => ?_)
    clear hK K
    refine norm_ (a':=?_) ?_ ?_
    rotate_left
    ·show Act.put _ (some 28) _ = _
     simp only [Act.put,setIfInBounds_toArray,set_cons_zero,set_cons_succ,i64_w,i32_w]
     rfl
    refine one_ (i:=17) (N:=some 29) (bm 19 262143) rfl rfl (one_of HT_.out (by kernel_rfl)) (by decide) (fun K hK => ?_)
    refine goes_ Try.func28 (by kernel_rfl) rfl #[.slice Ao26 y214.length co26] (by rfl) rfl rfl mA ?_
    with_reducible refine (impl_first.calls k _ _ y214 t217 _ ?side1 ?side2 A8.out).mono ?_
    (case side1 => repeat (first | exact (Kd.R_reads' HO216.out).2.2 | (with_reducible refine Kd.C_alloc ?_ _) | (with_reducible refine Kd.C_drewN ?_ _) | (with_reducible refine Kd.C_drew ?_)))
    (case side2 => exact (Kd.R_reads' HO216.out).2.1)
    rintro e w' ⟨rfl,⟨nd,rfl⟩⟩
    refine ⟨_,rfl,?_⟩
    refine hK.out _ _ ⟨(blk_cell BK207.out 0).trans rfl,(blk_cell BK206.out 0).trans rfl,(blk_cell BK206.out 1).trans rfl⟩ (fun hHeld => ?_)
    clear hK K
    refine norm_ (a':=?_) ?_ ?_
    rotate_left
    ·show Act.put _ (some 29) _ = _
     simp only [Act.put,setIfInBounds_toArray,set_cons_zero,set_cons_succ,i64_w,i32_w]
     rfl
    refine pV_ 18 10 (bm 19 524287) HT_.out ?_
    refine done_ (done_of HT_.out (by kernel_rfl)) ?_
    have hnb27 := NB206_207.out
    have hnc27 := NB207_206.out
    have hcz28_0 : w24.cell? ⟨gb206,0,none⟩ = some (.slice A0_0 l0_0.length c0_0) := (blk_cell BK206.out 0).trans rfl
    have hcz28_1 : w24.cell? ⟨gb206,1,none⟩ = some (.int .i64 a0_1) := (blk_cell BK206.out 1).trans rfl
    have hfz28_0 := blk_frozen BK206.out 0
    have hfz28_1 := blk_frozen BK206.out 1
    try go_wp2_with (first | ((with_reducible refine gate_callee (f:=43) rfl ?_); refine goesL_ (some 35) rfl rfl Try.func43 (by kernel_rfl) rfl #[.agg #[.slice A0_0 l0_0.length c0_0,.int .i64 a0_1],.string a1] rfl mA ?_; (with_reducible refine (impl_Store_keys.calls k _ _ l0_0 a0_1 a1 t218 _ ?side1 ?side2 A10.out).mono ?_); (case side1 => repeat (first | exact (Kd.C_below HR0_0.out bA) | (with_reducible refine Kd.C_alloc ?_ _) | (with_reducible refine Kd.C_drewN ?_ _) | (with_reducible refine Kd.C_drew ?_))); (case side2 => exact HC0_0.out); rintro e w29 ⟨v219,rfl,ho0,hb⟩; refine ⟨_,rfl,?_⟩; have n0_ := Aside0.mk (Kd.R_elder' (rA HO210.out) (Kd.R_base ho0) hb); have n1_ := Aside0.mk (Kd.R_below (rA HO216.out) hb); have n2_ := Aside0.mk (Kd.R_lower (Kd.R_newB (Kd.R_new' ho0 (Kd.R_lt (rA HO210.out))) (g:=gb207) (o:=.cells #[.string a2] 9 (0,0)) (kA BK207.out)) (below_size bA)); have n3_ := Aside0.mk (blk_below (g:=gb206) (o:=.cells #[.slice A0_0 l0_0.length c0_0,.int .i64 a0_1] 28 (0,0)) (kA BK206.out) hb); have n4_ := Aside0.mk (blk_below (g:=gb207) (o:=.cells #[.string a2] 9 (0,0)) (kA BK207.out) hb); have n5_ := Aside0.mk (below_step bA hb); clear HO210; clear HO216; clear BK206; clear BK207; clear HB; have HO210 := n0_; have HO216 := n1_; have HO220 := n2_; have BK206 := n3_; have BK207 := n4_; have HB := n5_; clear n0_ n1_ n2_ n3_ n4_ n5_; (try clear hb); (try clear hb2); (try clear hk); (try clear hi); (try clear ho0); obtain ⟨Ao30,co30,eo30⟩ := Kd.R_slice HO220.out; subst eo30) | ((with_reducible refine gate_callee (f:=42) rfl ?_); refine goesL_ (some 37) rfl rfl Try.func42 (by kernel_rfl) rfl #[.slice Ao30 t218.length co30,.func (.func 44) #[] #[.pointer (some ⟨gb207,0,none⟩)]] rfl mA ?_; (with_reducible refine (slices_DeleteFunc_string_string.calls a2 gb207 _ t218 t221 w _ ?sideB ?sideR ?sideK A11.out).mono ?_); (case sideB => exact bA); (case sideR => (with_reducible repeat (first | apply Kd.R_alloc | apply Kd.R_drewN | apply Kd.R_drew)); exact Kd.R_mono HO220.out (fun _ hk => hk.2)); (case sideK => (with_reducible repeat (first | refine blk_drewN ?_ _ | refine blk_drew ?_ | refine blk_alloc ?_ _)); exact BK207.out); rintro e w31 ⟨v222,rfl,ho0,hb,hv0,hk0⟩; refine ⟨_,rfl,?_⟩; have HO223 := Aside0.mk ho0; have n9_ := Aside0.mk hb; clear HB hv0 hk0; have HB := n9_; clear n9_; (try clear hb); (try clear hb2); (try clear hk); (try clear hi); (try clear ho0); obtain ⟨Ao32,co32,eo32⟩ := Kd.R_slice HO223.out; subst eo32; have q33 : ((ji12) : Int) ≤ ((t221.length : Int) : Int) := of_decide_eq_true (by first | (with_reducible assumption) | assumption); obtain ⟨i033,hi033,_,hsz33,_⟩ := info_parts info9; have hroom33 : t221.length ≤ co32 := (Kd.R_reads' HO223.out).2.1; have hC33 : Kd.C Kd.string _ Ao32 t221.length t221 := (Kd.R_reads' HO223.out).2.2; have hcut33 := cut_to (P:=Try.prog) 35 9 .i64 Try.underlying35 hi033 Ao32 t221.length co32 (ji12) (of_decide_eq_true (by first | (with_reducible assumption) | assumption)) q33 hroom33; have hr33 := Kd.C_take (m:=((ji12) : Int).toNat) hC33 (by omega); have hy33 : y224.length = ((ji12) : Int).toNat := (by rw [Ny224.out,List.length_take]; omega); rw [← Ny224.out] at hr33; rw [← hy33] at hcut33; have HR227 := Aside0.mk hr33; have HC227 := Aside0.mk (show y224.length ≤ co32 from by omega); clear hr33 hC33 hroom33 hi033 hsz33; have KY33 := Aside0.mk hy33; clear hy33; have KL33 := Aside0.mk (show ((ji12) : Int).toNat ≤ t221.length from by omega); replace q33 := eq_true q33) | ((with_reducible refine gate_callee (f:=45) rfl ?_); refine goesL_ (some 44) rfl rfl Try.func45 (by kernel_rfl) rfl #[.slice Ao32 y224.length co32] rfl mA ?_; (with_reducible refine (slices_Clone_string_string.calls _ _ y224 t228 _ ?side1 ?side2 A15.out).mono ?_); (case side1 => repeat (first | exact (by repeat (first | (with_reducible exact HR227.out) | (with_reducible refine Kd.C_alloc ?_ _) | (with_reducible refine Kd.C_drewN ?_ _) | (with_reducible refine Kd.C_drew ?_) | exact HR227.out)) | (with_reducible refine Kd.C_alloc ?_ _) | (with_reducible refine Kd.C_drewN ?_ _) | (with_reducible refine Kd.C_drew ?_))); (case side2 => exact HC227.out); rintro e w34 ⟨v229,rfl,ho0,hb⟩; refine ⟨_,rfl,?_⟩; have n3_ := Aside0.mk (Kd.R_elder' (rA HO223.out) (Kd.R_base ho0) hb); have n4_ := Aside0.mk (Kd.R_lower ho0 (below_size bA)); have n7_ := Aside0.mk (Kd.C_below (by repeat (first | (with_reducible exact HR227.out) | (with_reducible refine Kd.C_alloc ?_ _) | (with_reducible refine Kd.C_drewN ?_ _) | (with_reducible refine Kd.C_drew ?_) | exact HR227.out)) hb); have n8_ := Aside0.mk (below_step bA hb); clear HO223; clear HR227; clear HB; have HO223 := n3_; have HO230 := n4_; have HR227 := n7_; have HB := n8_; clear n3_ n4_ n7_ n8_; (try clear hb); (try clear hb2); (try clear hk); (try clear hi); (try clear ho0)))
    go_ret2
    exact ⟨_,by first | rfl | (simp [errW_none,errW_some] <;> rfl) | (simp only [← hji12]; first | rfl | (simp [errW_none,errW_some] <;> rfl)) | (simp [*,errW_none,errW_some] <;> rfl),by (with_reducible repeat (first | apply Kd.R_alloc | apply Kd.R_drewN | apply Kd.R_drew)); exact Kd.R_mono HO230.out (fun _ hk => trivial),bA⟩
   ·rw [if_neg c14] at H
    exact absurd H (by simp)
  ·rw [if_neg c13] at H
   exact absurd H (by simp)
 ·rw [if_neg c9] at H
  have c9b0 : (t217 == 0) = false := beq_eq_false_iff_ne.mpr c9
  have c9b1 : (t217 != 0) = true := bne_iff_ne.mpr c9
  simp only [Option.some.injEq,Prod.mk.injEq] at H
  obtain ⟨rfl,rfl⟩ := H
  go_enter Try.func15,Try.ntmps15
  try go_wp2_with (first | ((with_reducible refine gate_dst (N:=4) rfl ?_); refine box_event ?hg (N:=4) ?hd (cs := #[.slice A0_0 l0_0.length c0_0,.int .i64 a0_1]) (t:=28) ?hr ?_; (case hd => rfl); (case hg => rfl); (case hr => first | (go_simp; done) | (go_simp; rfl)); intro gb206 hg w35 hbox hb; have n0_ := Aside0.mk (below_step bA hb); have n1_ := Aside0.mk (hbox); have n2_ := Aside0.mk ((by rw [hg]; exact (below_size bA) : w.heap.size ≤ gb206)); have n3_ := Aside0.mk ((by rw [hg]; exact (below_size bA) : w.heap.size ≤ gb206)); clear HB; have HB := n0_; have BK206 := n1_; have GW206 := n2_; have GE206 := n3_; clear n0_ n1_ n2_ n3_; clear hb hbox hg) | ((with_reducible refine gate_dst (N:=6) rfl ?_); refine box_event ?hg (N:=6) ?hd (cs := #[.string a2]) (t:=9) ?hr ?_; (case hd => rfl); (case hg => rfl); (case hr => first | (go_simp; done) | (go_simp; rfl)); intro gb207 hg w36 hbox hb; have n0_ := Aside0.mk (blk_below (g:=gb206) (o:=.cells #[.slice A0_0 l0_0.length c0_0,.int .i64 a0_1] 28 (0,0)) (kA BK206.out) hb); have n1_ := Aside0.mk (below_step bA hb); have n2_ := Aside0.mk (hbox); have n3_ := Aside0.mk ((by rw [hg]; exact (below_size bA) : w.heap.size ≤ gb207)); have n4_ := Aside0.mk ((by rw [hg]; exact (below_size bA) : w.heap.size ≤ gb207)); have n5_ := Aside0.mk ((by rw [hg]; exact Nat.ne_of_lt (blk_lt (g:=gb206) (o:=.cells #[.slice A0_0 l0_0.length c0_0,.int .i64 a0_1] 28 (0,0)) (kA BK206.out)) : gb206 ≠ gb207)); have n6_ := Aside0.mk ((by rw [hg]; exact Nat.ne_of_gt (blk_lt (g:=gb206) (o:=.cells #[.slice A0_0 l0_0.length c0_0,.int .i64 a0_1] 28 (0,0)) (kA BK206.out)) : gb207 ≠ gb206)); clear BK206; clear HB; have BK206 := n0_; have HB := n1_; have BK207 := n2_; have GW207 := n3_; have GE207 := n4_; have NB206_207 := n5_; have NB207_206 := n6_; clear n0_ n1_ n2_ n3_ n4_ n5_ n6_; clear hb hbox hg))
  have n0_ := Aside0.mk (blk_drew BK206.out)
  have n1_ := Aside0.mk (blk_drew BK207.out)
  have n2_ := Aside0.mk (below_drew1 HB.out)
  clear BK206
  clear BK207
  clear HB
  have BK206 := n0_
  have BK207 := n1_
  have HB := n2_
  clear n0_ n1_ n2_
  refine start_ (n:=19) (S:=fun w' => w'.cell? ⟨gb207,0,none⟩ = some (.string a2) ∧ w'.cell? ⟨gb206,0,none⟩ = some (.slice A0_0 l0_0.length c0_0) ∧ w'.cell? ⟨gb206,1,none⟩ = some (.int .i64 a0_1)) (ds := []) (bm 19 0) (by kernel_rfl) rfl rfl ⟨(blk_cell BK207.out 0).trans rfl,(blk_cell BK206.out 0).trans rfl,(blk_cell BK206.out 1).trans rfl⟩ (fun hHeld => ?_); refine with_tabW impl_ListKeys.tab1 impl_ListKeys.bits1 (fun HT_ HW_ => ?_)
  generalize w36.drew = w37 at BK206 BK207 HB hHeld ⊢
  refine pV_ 0 12 (bm 19 1) HT_.out ?_
  refine pV_ 5 17 (bm 19 33) HT_.out ?_
  refine pV_ 10 22 (bm 19 1057) HT_.out ?_
  refine pV_ 11 23 (bm 19 3105) HT_.out ?_
  refine pV_ 15 27 (bm 19 35873) HT_.out ?_
  refine take_ (i:=1) (N:=some 13) (v:=?_) (a':=?_) (bm 19 35875) rfl rfl (take_ofW HT_.out HW_.out (by kernel_rfl)) (fun _ _ _ h => h) (Or.inl ⟨by rfl,?_⟩) hHeld ?_ ?_
  rotate_left
  ·rintro w' ⟨s0,s1,s2⟩
   go_simp
   with_reducible rfl
  rotate_left
  ·simp only [Act.put,setIfInBounds_toArray,set_cons_zero,set_cons_succ,i64_w,i32_w]
   rfl
  refine take_ (i:=6) (N:=some 18) (v:=?_) (a':=?_) (bm 19 35939) rfl rfl (take_ofW HT_.out HW_.out (by kernel_rfl)) (fun _ _ _ h => h) (Or.inl ⟨by rfl,?_⟩) hHeld ?_ ?_
  rotate_left
  ·rintro w' ⟨s0,s1,s2⟩
   go_simp
   with_reducible rfl
  rotate_left
  ·simp only [Act.put,setIfInBounds_toArray,set_cons_zero,set_cons_succ,i64_w,i32_w]
   rfl
  refine one_ (i:=2) (N:=some 14) (bm 19 35943) rfl rfl (one_of HT_.out (by kernel_rfl)) (by decide) (fun K hK => ?_)
  refine Kd.R_lit_step Kd.string _ 9 ?hg (N:=14) ?hd (xs := ([a1,a2] : List ByteArray)) (inner := [.string a1,.string a2]) (ok := fun _ => True) (okp := fun _ => True) ?hr ?hp (fun _ hk => hk) trivial (Below.refl _ _) (Nat.le_refl _) (by simp) ?_; (case hd => rfl); (case hg => rfl); (case hr => first | (go_simp; done) | (go_simp; rfl)); (case hp => exact (Reps.one (show Kd.M Kd.string _ _ _ a1 [.string a1] from rfl) (Reps.one (show Kd.M Kd.string _ _ _ a2 [.string a2] from rfl) (Reps.none _ _))))
  intro v209 w38 ho39 hb hg_ hnew_
  clear hg_ hnew_
  (first | rw [← Ny208.out] at ho39 | (simp only [Int.reduceToNat] at ho39; rw [← Ny208.out] at ho39))
  have n0_ := Aside0.mk (Kd.R_lower (Kd.R_newB ho39 (g:=gb207) (o:=.cells #[.string a2] 9 (0,0)) (kA BK207.out)) (below_size bA))
  have n1_ := Aside0.mk (blk_below (g:=gb206) (o:=.cells #[.slice A0_0 l0_0.length c0_0,.int .i64 a0_1] 28 (0,0)) (kA BK206.out) hb)
  have n2_ := Aside0.mk (blk_below (g:=gb207) (o:=.cells #[.string a2] 9 (0,0)) (kA BK207.out) hb)
  have n3_ := Aside0.mk (below_step bA hb)
  clear BK206
  clear BK207
  clear HB
  have HO210 := n0_
  have BK206 := n1_
  have BK207 := n2_
  have HB := n3_
  clear n0_ n1_ n2_ n3_
  clear hb ho39
  obtain ⟨Ao40,co40,eo40⟩ := Kd.R_slice HO210.out
  (first | subst eo40 | (injection eo40 with f1_ f2_ f3_; have f4_ := f1_.symm; have f5_ := f3_.symm; clear f1_ f2_ f3_; subst f4_; subst f5_))
  refine hK.out _ _ ⟨(blk_cell BK207.out 0).trans rfl,(blk_cell BK206.out 0).trans rfl,(blk_cell BK206.out 1).trans rfl⟩ (fun hHeld => ?_)
  clear hK K
  refine norm_ (a':=?_) ?_ ?_
  rotate_left
  ·show Act.put _ (some 14) _ = _
   simp only [Act.put,setIfInBounds_toArray,set_cons_zero,set_cons_succ,i64_w,i32_w]
   rfl
  refine one_ (i:=3) (N:=some 15) (bm 19 35951) rfl rfl (one_of HT_.out (by kernel_rfl)) (by decide) (fun K hK => ?_)
  refine goes_ Try.func29 (by kernel_rfl) rfl #[.slice Ao40 y208.length co40] (by rfl) rfl rfl mA ?_
  with_reducible refine (impl_isLong.calls _ _ y208 t211 _ ?side1 ?side2 A5.out).mono ?_
  (case side1 => repeat (first | exact (Kd.R_reads' HO210.out).2.2 | (with_reducible refine Kd.C_alloc ?_ _) | (with_reducible refine Kd.C_drewN ?_ _) | (with_reducible refine Kd.C_drew ?_)))
  (case side2 => exact (Kd.R_reads' HO210.out).2.1)
  rintro e w41 ⟨rfl,hb⟩
  refine ⟨_,rfl,?_⟩
  have n0_ := Aside0.mk (Kd.R_below (rA HO210.out) hb)
  have n1_ := Aside0.mk (blk_below (g:=gb206) (o:=.cells #[.slice A0_0 l0_0.length c0_0,.int .i64 a0_1] 28 (0,0)) (kA BK206.out) hb)
  have n2_ := Aside0.mk (blk_below (g:=gb207) (o:=.cells #[.string a2] 9 (0,0)) (kA BK207.out) hb)
  have n3_ := Aside0.mk (below_step bA hb)
  clear HO210
  clear BK206
  clear BK207
  clear HB
  have HO210 := n0_
  have BK206 := n1_
  have BK207 := n2_
  have HB := n3_
  clear n0_ n1_ n2_ n3_
  (try clear hb)
  (try clear hb2)
  (try clear hk)
  (try clear hi)
  refine hK.out _ _ ⟨(blk_cell BK207.out 0).trans rfl,(blk_cell BK206.out 0).trans rfl,(blk_cell BK206.out 1).trans rfl⟩ (fun hHeld => ?_)
  clear hK K
  refine norm_ (a':=?_) ?_ ?_
  rotate_left
  ·show Act.put _ (some 15) _ = _
   simp only [Act.put,setIfInBounds_toArray,set_cons_zero,set_cons_succ,i64_w,i32_w]
   rfl
  refine pV_ 4 16 (bm 19 35967) HT_.out ?_
  refine one_ (i:=7) (N:=some 19) (bm 19 36095) rfl rfl (one_of HT_.out (by kernel_rfl)) (by decide) (fun K hK => ?_)
  refine goes_ Try.func40 (by kernel_rfl) rfl #[.agg #[.slice A0_0 l0_0.length c0_0,.int .i64 a0_1]] (by rfl) rfl rfl mA ?_
  with_reducible refine (impl_StoreOK.calls k _ _ l0_0 a0_1 t212 _ ?side1 ?side2 A6.out).mono ?_
  (case side1 => repeat (first | exact (Kd.C_below HR0_0.out HB.out) | (with_reducible refine Kd.C_alloc ?_ _) | (with_reducible refine Kd.C_drewN ?_ _) | (with_reducible refine Kd.C_drew ?_)))
  (case side2 => exact HC0_0.out)
  rintro e w42 ⟨rfl,hb⟩
  refine ⟨_,rfl,?_⟩
  have n0_ := Aside0.mk (Kd.R_below (rA HO210.out) hb)
  have n1_ := Aside0.mk (blk_below (g:=gb206) (o:=.cells #[.slice A0_0 l0_0.length c0_0,.int .i64 a0_1] 28 (0,0)) (kA BK206.out) hb)
  have n2_ := Aside0.mk (blk_below (g:=gb207) (o:=.cells #[.string a2] 9 (0,0)) (kA BK207.out) hb)
  have n3_ := Aside0.mk (below_step bA hb)
  clear HO210
  clear BK206
  clear BK207
  clear HB
  have HO210 := n0_
  have BK206 := n1_
  have BK207 := n2_
  have HB := n3_
  clear n0_ n1_ n2_ n3_
  (try clear hb)
  (try clear hb2)
  (try clear hk)
  (try clear hi)
  refine hK.out _ _ ⟨(blk_cell BK207.out 0).trans rfl,(blk_cell BK206.out 0).trans rfl,(blk_cell BK206.out 1).trans rfl⟩ (fun hHeld => ?_)
  clear hK K
  refine norm_ (a':=?_) ?_ ?_
  rotate_left
  ·show Act.put _ (some 19) _ = _
   simp only [Act.put,setIfInBounds_toArray,set_cons_zero,set_cons_succ,i64_w,i32_w]
   rfl
  refine pV_ 8 20 (bm 19 36351) HT_.out ?_
  refine pV_ 9 21 (bm 19 36863) HT_.out ?_
  refine one_ (i:=12) (N:=some 24) (bm 19 40959) rfl rfl (one_of HT_.out (by kernel_rfl)) (by decide) (fun K hK => ?_)
  refine goes_ Try.func41 (by kernel_rfl) rfl #[.int .i64 a3,.int .i64 0,.int .i64 300] (by rfl) rfl rfl mA ?_
  with_reducible refine (impl_within.calls a3 0 300 t213 _ A7.out).mono ?_
  rintro e w' ⟨rfl,⟨nd,rfl⟩⟩
  refine ⟨_,rfl,?_⟩
  refine hK.out _ _ ⟨(blk_cell BK207.out 0).trans rfl,(blk_cell BK206.out 0).trans rfl,(blk_cell BK206.out 1).trans rfl⟩ (fun hHeld => ?_)
  clear hK K
  refine norm_ (a':=?_) ?_ ?_
  rotate_left
  ·show Act.put _ (some 24) _ = _
   simp only [Act.put,setIfInBounds_toArray,set_cons_zero,set_cons_succ,i64_w,i32_w]
   rfl
  refine pV_ 13 25 (bm 19 49151) HT_.out ?_
  refine pV_ 14 26 (bm 19 65535) HT_.out ?_
  refine one_ (i:=16) (N:=some 28) (bm 19 131071) rfl rfl (one_of HT_.out (by kernel_rfl)) (by decide) (fun K hK => ?_)
  refine Kd.R_lit_step kAny _ 20 ?hg (N:=28) ?hd (xs := ([anyB t211,anyI 2,anyB (!t212),anyI 1,anyB (!t213),anyI 4] : List AnyV)) (inner := [.iface 4 (.bool t211),.iface 3 (.int .i64 2),.iface 4 (.bool (!t212)),.iface 3 (.int .i64 1),.iface 4 (.bool (!t213)),.iface 3 (.int .i64 4)]) (ok := fun _ => True) (okp := fun _ => True) ?hr ?hp (fun _ hk => hk) trivial (Below.refl _ _) (Nat.le_refl _) (by simp) ?_; (case hd => rfl); (case hg => rfl); (case hr => first | (go_simp; done) | (go_simp; rfl)); (case hp => exact (Reps.one (show Kd.M kAny _ _ _ (anyB t211) [.iface 4 (.bool t211)] from rfl) (Reps.one (show Kd.M kAny _ _ _ (anyI 2) [.iface 3 (.int .i64 2)] from rfl) (Reps.one (show Kd.M kAny _ _ _ (anyB (!t212)) [.iface 4 (.bool (!t212))] from rfl) (Reps.one (show Kd.M kAny _ _ _ (anyI 1) [.iface 3 (.int .i64 1)] from rfl) (Reps.one (show Kd.M kAny _ _ _ (anyB (!t213)) [.iface 4 (.bool (!t213))] from rfl) (Reps.one (show Kd.M kAny _ _ _ (anyI 4) [.iface 3 (.int .i64 4)] from rfl) (Reps.none _ _))))))))
  intro v215 w43 ho44 hb hg_ hnew_
  clear hg_ hnew_
  (first | rw [← Ny214.out] at ho44 | (simp only [Int.reduceToNat] at ho44; rw [← Ny214.out] at ho44))
  have n0_ := Aside0.mk (Kd.R_below (rA HO210.out) hb)
  have n1_ := Aside0.mk (Kd.R_lower ho44 (below_size bA))
  have n2_ := Aside0.mk (blk_below (g:=gb206) (o:=.cells #[.slice A0_0 l0_0.length c0_0,.int .i64 a0_1] 28 (0,0)) (kA BK206.out) hb)
  have n3_ := Aside0.mk (blk_below (g:=gb207) (o:=.cells #[.string a2] 9 (0,0)) (kA BK207.out) hb)
  have n4_ := Aside0.mk (below_step bA hb)
  clear HO210
  clear BK206
  clear BK207
  clear HB
  have HO210 := n0_
  have HO216 := n1_
  have BK206 := n2_
  have BK207 := n3_
  have HB := n4_
  clear n0_ n1_ n2_ n3_ n4_
  clear hb ho44
  obtain ⟨Ao45,co45,eo45⟩ := Kd.R_slice HO216.out
  (first | subst eo45 | (injection eo45 with f1_ f2_ f3_; have f4_ := f1_.symm; have f5_ := f3_.symm; clear f1_ f2_ f3_; subst f4_; subst f5_))
  refine hK.out _ _ ⟨(blk_cell BK207.out 0).trans rfl,(blk_cell BK206.out 0).trans rfl,(blk_cell BK206.out 1).trans rfl⟩ (fun hHeld => ?_)
  clear hK K
  refine norm_ (a':=?_) ?_ ?_
  rotate_left
  ·show Act.put _ (some 28) _ = _
   simp only [Act.put,setIfInBounds_toArray,set_cons_zero,set_cons_succ,i64_w,i32_w]
   rfl
  refine one_ (i:=17) (N:=some 29) (bm 19 262143) rfl rfl (one_of HT_.out (by kernel_rfl)) (by decide) (fun K hK => ?_)
  refine goes_ Try.func28 (by kernel_rfl) rfl #[.slice Ao45 y214.length co45] (by rfl) rfl rfl mA ?_
  with_reducible refine (impl_first.calls k _ _ y214 t217 _ ?side1 ?side2 A8.out).mono ?_
  (case side1 => repeat (first | exact (Kd.R_reads' HO216.out).2.2 | (with_reducible refine Kd.C_alloc ?_ _) | (with_reducible refine Kd.C_drewN ?_ _) | (with_reducible refine Kd.C_drew ?_)))
  (case side2 => exact (Kd.R_reads' HO216.out).2.1)
  rintro e w' ⟨rfl,⟨nd,rfl⟩⟩
  refine ⟨_,rfl,?_⟩
  refine hK.out _ _ ⟨(blk_cell BK207.out 0).trans rfl,(blk_cell BK206.out 0).trans rfl,(blk_cell BK206.out 1).trans rfl⟩ (fun hHeld => ?_)
  clear hK K
  refine norm_ (a':=?_) ?_ ?_
  rotate_left
  ·show Act.put _ (some 29) _ = _
   simp only [Act.put,setIfInBounds_toArray,set_cons_zero,set_cons_succ,i64_w,i32_w]
   rfl
  refine pV_ 18 10 (bm 19 524287) HT_.out ?_
  refine done_ (done_of HT_.out (by kernel_rfl)) ?_
  try go_wp2
  go_ret2
  exact ⟨_,by first | rfl | (simp [errW_none,errW_some] <;> rfl) | (simp [*,errW_none,errW_some] <;> rfl),by first | exact Kd.R_nil _ _ _ _ _ | exact Kd.N_nil _ _ _ _ _ | exact Kd.V_nil _ _ _ _ _ | exact Kd.Q_nil _ _ _ _ _ | exact Kd.S_nil _ _ _ _ _,bA⟩

/-! ### laws_eqStringS: function 16 -/
def laws_eqStringS.l0 : Nat → List ByteArray → List ByteArray → Int → Option (Bool)
 | 0,_,_,_ => none
 | k + 1,x0,x1,x5 => if x5 < (x0.length : Int) then (if 0 ≤ x5 then (if x5 < (x1.length : Int) then (if (rdOf ByteArray.empty x0 x5).toList = (rdOf ByteArray.empty x1 x5).toList then (laws_eqStringS.l0 k x0 x1 (wrap64 (x5 + 1))) else (some false)) else (none)) else (none)) else (some true)
def laws_eqStringS.f (k : Nat) (l0 : List ByteArray) (l1 : List ByteArray) : Option (Bool) := if (l0.length : Int) = (l1.length : Int) then (laws_eqStringS.l0 k l0 l1 0) else (some false)
theorem laws_eqStringS.mono_l : ∀ k,(∀ y0 y1 y2,LeO (laws_eqStringS.l0 k y0 y1 y2) (laws_eqStringS.l0 (k + 1) y0 y1 y2))
 | 0 => fun _ _ _ r h => by simp [laws_eqStringS.l0] at h
 | k + 1 => by
  have ih0 := laws_eqStringS.mono_l k
  ·intro y0 y1 y2
   unfold laws_eqStringS.l0
   repeat' first
   | (with_reducible exact ih0 _ _ _)
   | (with_reducible exact LeO.refl _)
   | (with_reducible exact LeO.none _)
   | (with_reducible refine LeO.ite ?_ ?_)
   | (with_reducible refine LeO.bind ?_ (fun _ => ?_))
   | exact ih0 _ _ _
   | exact LeO.none _
   | refine LeO.ite ?_ ?_
   | refine LeO.bind ?_ (fun _ => ?_)
theorem laws_eqStringS.mono : ∀ a0 a1 k,LeO (laws_eqStringS.f k a0 a1) (laws_eqStringS.f (k + 1) a0 a1) := by
 intro a0 a1 k
 have ih0 := laws_eqStringS.mono_l k
 unfold laws_eqStringS.f
 repeat' first
   | (with_reducible exact ih0 _ _ _)
   | (with_reducible exact LeO.refl _)
   | (with_reducible exact LeO.none _)
   | (with_reducible refine LeO.ite ?_ ?_)
   | (with_reducible refine LeO.bind ?_ (fun _ => ?_))
   | exact ih0 _ _ _
   | exact LeO.none _
   | refine LeO.ite ?_ ?_
   | refine LeO.bind ?_ (fun _ => ?_)
set_option maxHeartbeats 8000000 in
set_option maxRecDepth 100000 in
theorem laws_eqStringS.calls (k : Nat) (A0 : Option Addr) (c0 : Nat) (l0 : List ByteArray) (A1 : Option Addr) (c1 : Nat) (l1 : List ByteArray) (r : Bool) (w : World) (hr0 : Kd.C Kd.string w A0 l0.length l0) (hc0 : l0.length ≤ c0) (hr1 : Kd.C Kd.string w A1 l1.length l1) (hc1 : l1.length ≤ c1) (h : laws_eqStringS.f k l0 l1 = some r) :
  Calls Try.prog 16 #[.slice A0 l0.length c0,.slice A1 l1.length c1] w fun e w' => e = .returned (.bool r) ∧ Drawn0 w w' := by
 have HR0 := Aside0.mk hr0
 have HC0 := Aside0.mk hc0
 clear hr0 hc0
 have HR1 := Aside0.mk hr1
 have HC1 := Aside0.mk hc1
 clear hr1 hc1
 have H : (if (l0.length : Int) = (l1.length : Int) then (laws_eqStringS.l0 k l0 l1 0) else (some false)) = some r := h
 clear h
 by_cases c3 : (l0.length : Int) = (l1.length : Int)
 ·rw [if_pos c3] at H
  have c3b0 : ((l0.length : Int) == (l1.length : Int)) = true := beq_iff_eq.mpr c3
  have c3b1 : ((l0.length : Int) != (l1.length : Int)) = false := bne_eq_false_iff_eq.mpr c3
  have c3b2 : (l0.length == l1.length) = true := by first | simpa using c3 | (simp at c3 ⊢; omega)
  clear c3
  have H' := Aside0.mk H
  clear H
  go_enter Try.func16,Try.ntmps16
  go_wp2
  repeat (go_quiet (fail); try go_wp2)
  go_loopg [5] k (fun kq v5 w' => ∃ (x5_1 : Int),v5 = .int .i64 x5_1 ∧ Aside0 (laws_eqStringS.l0 kq l0 l1 x5_1 = some r) ∧ Aside0 (kq ≤ k) ∧ Drawn0 w w')
  case atStart => exact ⟨(0),(by first | rfl | (simp; done) | (simp [*]; done)),H',⟨Nat.le_refl _⟩,by repeat (first | exact Drawn0.refl _ | apply Drawn0.step)⟩
  case round =>
   clear H'
   try clear c1
   try clear p2
   try clear c3
   try clear c3b0
   try clear c3b1
   try clear c3b2
   obtain ⟨x5_1,rfl,HA,HK1,⟨m1,rfl⟩⟩ := hrel
   cases gk with
   | zero => exact absurd HA.out (by simp [laws_eqStringS.l0])
   | succ k1 =>
    have H := HA.out
    clear HA
    simp only [laws_eqStringS.l0] at H
    by_cases c4 : x5_1 < (l0.length : Int)
    ·rw [if_pos c4] at H
     have c4b0 : decide (x5_1 < (l0.length : Int)) = true := decide_eq_true c4
     clear c4
     by_cases c5 : 0 ≤ x5_1
     ·rw [if_pos c5] at H
      have c5b0 : decide (0 ≤ x5_1) = true := decide_eq_true c5
      clear c5
      by_cases c6 : x5_1 < (l1.length : Int)
      ·rw [if_pos c6] at H
       have c6b0 : decide (x5_1 < (l1.length : Int)) = true := decide_eq_true c6
       clear c6
       by_cases c7 : (rdOf ByteArray.empty l0 x5_1).toList = (rdOf ByteArray.empty l1 x5_1).toList
       ·rw [if_pos c7] at H
        have c7b0 : ((rdOf ByteArray.empty l0 x5_1).toList == (rdOf ByteArray.empty l1 x5_1).toList) = true := beq_iff_eq.mpr c7
        have c7b1 : ((rdOf ByteArray.empty l0 x5_1).toList != (rdOf ByteArray.empty l1 x5_1).toList) = false := bne_eq_false_iff_eq.mpr c7
        clear c7
        have H' := Aside0.mk H
        clear H
        have p231 : 0 ≤ (x5_1 : Int) := of_decide_eq_true (by first | (with_reducible assumption) | assumption)
        have q231 : x5_1 < (l0.length : Int) := of_decide_eq_true (by first | (with_reducible assumption) | assumption)
        obtain ⟨ad231,e231,hx231_0⟩ := Kd.at_string HR0.out x5_1 p231 q231
        cases e231
        replace p231 := eq_true p231
        replace q231 := eq_true q231
        have p232 : 0 ≤ (x5_1 : Int) := of_decide_eq_true (by first | (with_reducible assumption) | assumption)
        have q232 : x5_1 < (l1.length : Int) := of_decide_eq_true (by first | (with_reducible assumption) | assumption)
        obtain ⟨ad232,e232,hx232_0⟩ := Kd.at_string HR1.out x5_1 p232 q232
        cases e232
        replace p232 := eq_true p232
        replace q232 := eq_true q232
        go_wp2
        repeat (go_quiet (fail); try go_wp2)
        go_roundg k1
        case measure => have := HK1.out; omega
        case rel => exact ⟨(wrap64 (x5_1 + 1)),(by first | rfl | (simp; done) | (simp [*]; done)),H',⟨by have := HK1.out; omega⟩,by repeat (first | exact Drawn0.refl _ | apply Drawn0.step)⟩
       ·rw [if_neg c7] at H
        have c7b0 : ((rdOf ByteArray.empty l0 x5_1).toList == (rdOf ByteArray.empty l1 x5_1).toList) = false := beq_eq_false_iff_ne.mpr c7
        have c7b1 : ((rdOf ByteArray.empty l0 x5_1).toList != (rdOf ByteArray.empty l1 x5_1).toList) = true := bne_iff_ne.mpr c7
        obtain rfl := Option.some.inj H
        have p231 : 0 ≤ (x5_1 : Int) := of_decide_eq_true (by first | (with_reducible assumption) | assumption)
        have q231 : x5_1 < (l0.length : Int) := of_decide_eq_true (by first | (with_reducible assumption) | assumption)
        obtain ⟨ad231,e231,hx231_0⟩ := Kd.at_string HR0.out x5_1 p231 q231
        cases e231
        replace p231 := eq_true p231
        replace q231 := eq_true q231
        have p232 : 0 ≤ (x5_1 : Int) := of_decide_eq_true (by first | (with_reducible assumption) | assumption)
        have q232 : x5_1 < (l1.length : Int) := of_decide_eq_true (by first | (with_reducible assumption) | assumption)
        obtain ⟨ad232,e232,hx232_0⟩ := Kd.at_string HR1.out x5_1 p232 q232
        cases e232
        replace p232 := eq_true p232
        replace q232 := eq_true q232
        go_wp2
        repeat (go_quiet (fail); try go_wp2)
        go_ret
        exact ⟨by first | rfl | (simp; done) | (simp [*]; done),by repeat (first | exact Drawn0.refl _ | apply Drawn0.step)⟩
      ·rw [if_neg c6] at H
       exact absurd H (by simp)
     ·rw [if_neg c5] at H
      exact absurd H (by simp)
    ·rw [if_neg c4] at H
     have c4b0 : decide (x5_1 < (l0.length : Int)) = false := decide_eq_false c4
     clear c4
     obtain rfl := Option.some.inj H
     go_wp2
     repeat (go_quiet (fail); try go_wp2)
     go_ret
     exact ⟨by first | rfl | (simp; done) | (simp [*]; done),by repeat (first | exact Drawn0.refl _ | apply Drawn0.step)⟩
 ·rw [if_neg c3] at H
  have c3b0 : ((l0.length : Int) == (l1.length : Int)) = false := beq_eq_false_iff_ne.mpr c3
  have c3b1 : ((l0.length : Int) != (l1.length : Int)) = true := bne_iff_ne.mpr c3
  have c3b2 : (l0.length == l1.length) = false := by first | simpa using c3 | (simp at c3 ⊢; omega)
  obtain rfl := Option.some.inj H
  go_enter Try.func16,Try.ntmps16
  go_wp2
  repeat (go_quiet (fail); try go_wp2)
  go_ret
  exact ⟨by first | rfl | (simp; done) | (simp [*]; done),by repeat (first | exact Drawn0.refl _ | apply Drawn0.step)⟩

end Go.Proofs.Ytbodkbaniebfaaa.XFnExactListKeys
