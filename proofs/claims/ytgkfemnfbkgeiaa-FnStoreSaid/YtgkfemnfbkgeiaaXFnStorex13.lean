-- Printed by this session's own program wip/tools/xprint.py, which widens the kit's print. Not trusted: Lean checks it.
import Derived.Test.YtgkfemnfbkgeiaaXFnStorex0
import Derived.Test.YtgkfemnfbkgeiaaXFnStorex6
import Derived.Test.YtgkfemnfbkgeiaaXFnStorex8
namespace Go.Proofs.Ytgkfemnfbkgeiaa.XFnStore
open List (setIfInBounds_toArray set_cons_zero set_cons_succ)
open Go.RowKit Go.Proofs.YtgkfemnfbkgeiaaW.PrintWords Go.Proofs.YtgkfemnfbkgeiaaW.PrintLast Go.Proofs.YtgkfemnfbkgeiaaW.PrintMore
attribute [local go_sem] max2_int min2_int max_two min_two max_three min_three max_four min_four   -- for this text's walks alone
set_option linter.unusedVariables false
set_option linter.unusedSimpArgs false

/-! ### impl_GetObject: function 14 -/
def impl_GetObject.f (k : Nat) (l0_0 : List (S32)) (a0_1 : Int) (a1 : ByteArray) : Option (ByteArray × Int × Int) := (impl_isLong.f (([a1] : List ByteArray))).bind fun t459 => ((impl_storeCode.f k l0_0 a0_1 a1).bind fun t460 => ((impl_first.f k (([anyB t459,anyI 2,anyB true,anyI t460] : List AnyV))).bind fun t464 => (if t464 = 0 then ((impl_Store_find.f l0_0 a0_1 a1).bind fun bt465 => (if bt465.2 = true then (if 0 ≤ bt465.1 then (if bt465.1 < (l0_0.length : Int) then (some ((rd_T32 l0_0 bt465.1).f2,(rd_T32 l0_0 bt465.1).f1,0)) else (none)) else (none)) else (some ((⟨#[]⟩ : ByteArray),0,5)))) else (some ((⟨#[]⟩ : ByteArray),0,t464)))))
theorem impl_GetObject.mono : ∀ a0 a1 a2 k,LeO (impl_GetObject.f k a0 a1 a2) (impl_GetObject.f (k + 1) a0 a1 a2) := by
 intro a0 a1 a2 k
 unfold impl_GetObject.f
 repeat' first
 | (with_reducible first | exact impl_first.mono .. | exact impl_storeCode.mono .. | exact LeO.refl _ | exact LeO.none _ | refine LeO.ite ?_ ?_ | refine LeO.bind ?_ (fun _ => ?_))
 | exact LeO.none _ | refine LeO.ite ?_ ?_ | refine LeO.bind ?_ (fun _ => ?_)
def impl_GetObject.T1 : Bool × List (List Nat × List Nat) := (true,[([],[]),([0],[0]),([1],[1]),([2],[2]),([],[]),([],[]),([],[]),([],[]),([6,7,2],[6,7]),([8],[8]),([3,4,5,9],[3,4,5,9]),([10,8],[10]),([11,11,0,1,2,3,4,5,6,7,8,9,10,11],[11])])
def impl_GetObject.B1 : List Nat := [0,1,3,7,0,0,0,0,199,455,1023,2047,4095]
theorem impl_GetObject.tab1 : rtab .any (opsOf Try.f14 1) = impl_GetObject.T1 := by kernel_rfl
theorem impl_GetObject.bits1 : waitsOk impl_GetObject.T1.2 impl_GetObject.B1 = true := by kernel_rfl
def impl_GetObject.T7 : Bool × List (List Nat × List Nat) := (true,[([],[]),([0],[0]),([],[]),([1,2],[1,2]),([3],[3]),([4],[4]),([],[]),([6],[6]),([],[]),([7,8],[7,8]),([9],[9]),([10],[10]),([5,0,1,2,3,4,5],[5]),([11,12,0,1,2,3,4,5,6,7,8,9,10,11,12],[11]),([13,0,1,2,3,4,5,6,7,8,9,10,11,12,13],[])])
def impl_GetObject.B7 : List Nat := [0,1,0,7,15,31,0,64,0,448,960,1984,63,8191,16383]
theorem impl_GetObject.tab7 : rtab .any (opsOf Try.f14 7) = impl_GetObject.T7 := by kernel_rfl
theorem impl_GetObject.bits7 : waitsOk impl_GetObject.T7.2 impl_GetObject.B7 = true := by kernel_rfl
set_option maxHeartbeats 8000000 in
set_option maxRecDepth 100000 in
theorem impl_GetObject.calls (k : Nat) (A0_0 : Option Addr) (c0_0 : Nat) (l0_0 : List (S32)) (a0_1 : Int) (a1 : ByteArray) (r1 : ByteArray) (r2 : Int) (r3 : Int) (w : World) (hr0_0 : Kd.C k32 w A0_0 l0_0.length l0_0) (hc0_0 : l0_0.length ≤ c0_0) (h : impl_GetObject.f k l0_0 a0_1 a1 = some (r1,r2,r3)) :
  Calls Try.prog 14 #[.agg #[.slice A0_0 l0_0.length c0_0,.int .i64 a0_1],.string a1] w fun e w' => e = .returned (.tuple #[.string r1,.int .i64 r2,.int .i64 r3]) ∧ Below w.heap.size w w' := by
 have hu25 := Try.underlying25
 have hua20 := Try.underlying20
 have HR0_0 := Aside0.mk hr0_0
 have HC0_0 := Aside0.mk hc0_0
 clear hr0_0 hc0_0
 have HB := Aside0.mk (Below.refl w.heap.size w)
 have H : ((impl_isLong.f (([a1] : List ByteArray))).bind fun t459 => ((impl_storeCode.f k l0_0 a0_1 a1).bind fun t460 => ((impl_first.f k (([anyB t459,anyI 2,anyB true,anyI t460] : List AnyV))).bind fun t464 => (if t464 = 0 then ((impl_Store_find.f l0_0 a0_1 a1).bind fun bt465 => (if bt465.2 = true then (if 0 ≤ bt465.1 then (if bt465.1 < (l0_0.length : Int) then (some ((rd_T32 l0_0 bt465.1).f2,(rd_T32 l0_0 bt465.1).f1,0)) else (none)) else (none)) else (some ((⟨#[]⟩ : ByteArray),0,5)))) else (some ((⟨#[]⟩ : ByteArray),0,t464)))))) = some (r1,r2,r3) := h
 clear h
 obtain ⟨y456,hy456⟩ : ∃ y_ : List ByteArray,y_ = (([a1] : List ByteArray)) := ⟨_,rfl⟩
 replace H : ((impl_isLong.f y456).bind fun t459 => ((impl_storeCode.f k l0_0 a0_1 a1).bind fun t460 => ((impl_first.f k (([anyB t459,anyI 2,anyB true,anyI t460] : List AnyV))).bind fun t464 => (if t464 = 0 then ((impl_Store_find.f l0_0 a0_1 a1).bind fun bt465 => (if bt465.2 = true then (if 0 ≤ bt465.1 then (if bt465.1 < (l0_0.length : Int) then (some ((rd_T32 l0_0 bt465.1).f2,(rd_T32 l0_0 bt465.1).f1,0)) else (none)) else (none)) else (some ((⟨#[]⟩ : ByteArray),0,5)))) else (some ((⟨#[]⟩ : ByteArray),0,t464)))))) = some (r1,r2,r3) := by first | (rw [hy456]; with_reducible exact H) | (have H2_ := (Option.bind_some _ _).symm.trans H; rw [hy456]; with_reducible exact H2_) | (have H2_ := (Option.bind_some _ _).symm.trans H; with_reducible exact H2_) | with_reducible exact H | (rw [hy456]; exact H) | exact H
 have Ny456 := Aside0.mk hy456
 clear hy456
 replace H := Option.bind_eq_some_iff.mp H
 obtain ⟨t459,A30,H⟩ := H
 try dsimp only at H
 have A3 := Aside0.mk A30
 clear A30
 replace H := Option.bind_eq_some_iff.mp H
 obtain ⟨t460,A40,H⟩ := H
 try dsimp only at H
 have A4 := Aside0.mk A40
 clear A40
 obtain ⟨y461,hy461⟩ : ∃ y_ : List AnyV,y_ = (([anyB t459,anyI 2,anyB true,anyI t460] : List AnyV)) := ⟨_,rfl⟩
 replace H : ((impl_first.f k y461).bind fun t464 => (if t464 = 0 then ((impl_Store_find.f l0_0 a0_1 a1).bind fun bt465 => (if bt465.2 = true then (if 0 ≤ bt465.1 then (if bt465.1 < (l0_0.length : Int) then (some ((rd_T32 l0_0 bt465.1).f2,(rd_T32 l0_0 bt465.1).f1,0)) else (none)) else (none)) else (some ((⟨#[]⟩ : ByteArray),0,5)))) else (some ((⟨#[]⟩ : ByteArray),0,t464)))) = some (r1,r2,r3) := by first | (rw [hy461]; with_reducible exact H) | (have H2_ := (Option.bind_some _ _).symm.trans H; rw [hy461]; with_reducible exact H2_) | (have H2_ := (Option.bind_some _ _).symm.trans H; with_reducible exact H2_) | with_reducible exact H | (rw [hy461]; exact H) | exact H
 have Ny461 := Aside0.mk hy461
 clear hy461
 replace H := Option.bind_eq_some_iff.mp H
 obtain ⟨t464,A50,H⟩ := H
 try dsimp only at H
 have A5 := Aside0.mk A50
 clear A50
 by_cases c6 : t464 = 0
 ·rw [if_pos c6] at H
  have c6b0 : (t464 == 0) = true := beq_iff_eq.mpr c6
  have c6b1 : (t464 != 0) = false := bne_eq_false_iff_eq.mpr c6
  clear c6
  replace H := Option.bind_eq_some_iff.mp H
  obtain ⟨⟨t465,t466⟩,A70,H⟩ := H
  try dsimp only at H
  have A7 := Aside0.mk A70
  clear A70
  by_cases c8 : t466 = true
  ·subst c8
   rw [if_pos rfl] at H
   by_cases c9 : 0 ≤ t465
   ·rw [if_pos c9] at H
    have c9b0 : decide (0 ≤ t465) = true := decide_eq_true c9
    clear c9
    by_cases c10 : t465 < (l0_0.length : Int)
    ·rw [if_pos c10] at H
     have c10b0 : decide (t465 < (l0_0.length : Int)) = true := decide_eq_true c10
     clear c10
     simp only [Option.some.injEq,Prod.mk.injEq] at H
     obtain ⟨rfl,rfl,rfl⟩ := H
     go_enter Try.func14,Try.ntmps14
     try go_wp2_with (first | ((with_reducible refine gate_dst (N:=2) rfl ?_); refine bxe (N:=2) (cs := #[.slice A0_0 l0_0.length c0_0,.int .i64 a0_1]) (t:=25) ?_; intro gb455 hg w11 hbox hb; have BK455 := Aside0.mk (hbox); have GW455 := Aside0.mk ((gw hg : w.heap.size ≤ gb455)); have GE455 := GW455; replace HB := bsA hb; clear hb hbox hg))
     replace BK455 := Aside0.mk (blk_drew BK455.out)
     replace HB := Aside0.mk (below_drew1 HB.out)
     refine start_ (n:=13) (S:=fun w' => w'.cell? ⟨gb455,0,none⟩ = some (.slice A0_0 l0_0.length c0_0) ∧ w'.cell? ⟨gb455,1,none⟩ = some (.int .i64 a0_1)) (ds := []) (bm 13 0) (by kernel_rfl) rfl rfl ⟨bl BK455 0,bl BK455 1⟩ (fun hHeld => ?_); refine with_tabW impl_GetObject.tab1 impl_GetObject.bits1 (fun HT_ HW_ => ?_)
     generalize w11.drew = w12 at BK455 HB hHeld ⊢
     refine pV_ 0 10 (bm 13 1) HT_.out ?_
     refine pV_ 4 14 (bm 13 17) HT_.out ?_
     refine pV_ 5 15 (bm 13 49) HT_.out ?_
     refine pV_ 7 17 (bm 13 177) HT_.out ?_
     refine tk 6 16 (bm 13 241) HT_.out HW_.out hHeld ?_
     refine one_ (i:=1) (N:=some 11) (bm 13 243) rfl rfl (one_of HT_.out (by kernel_rfl)) (by decide) (fun K hK => ?_)
     refine Kd.R_lit_step Kd.string _ 9 ?hg (N:=11) ?hd (xs := ([a1] : List ByteArray)) (inner := [.string a1]) (ok := fun _ => True) (okp := fun _ => True) ?hr ?hp (fun _ hk => hk) trivial (Below.refl _ _) (Nat.le_refl _) (by simp) ?_; (case hd => rfl); (case hg => rfl); (case hr => first | (go_simp; done) | (go_simp; rfl)); (case hp => exact (Reps.one (show Kd.M Kd.string _ _ _ a1 [.string a1] from rfl) (Reps.none _ _)))
     intro v457 w13 ho14 hb hg_ hnew_
     clear hg_ hnew_
     (first | rw [← Ny456.out] at ho14 | (simp only [Int.reduceToNat] at ho14; rw [← Ny456.out] at ho14))
     have HO458 := Aside0.mk (Kd.R_lower ho14 (below_size bA))
     replace BK455 := bbA BK455 hb
     replace HB := bsA hb
     clear hb ho14
     obtain ⟨Ao15,co15,eo15⟩ := Kd.R_slice HO458.out
     (first | subst eo15 | (injection eo15 with f1_ f2_ f3_; have f4_ := f1_.symm; have f5_ := f3_.symm; clear f1_ f2_ f3_; subst f4_; subst f5_))
     refine hK.out _ _ ⟨bl BK455 0,bl BK455 1⟩ (fun hHeld => ?_)
     clear hK K
     refine nw 11 ?_
     refine one_ (i:=2) (N:=some 12) (bm 13 247) rfl rfl (one_of HT_.out (by kernel_rfl)) (by decide) (fun K hK => ?_)
     refine goes_ Try.func24 (by kernel_rfl) rfl #[.slice Ao15 y456.length co15] (by rfl) rfl rfl mA ?_
     with_reducible refine (impl_isLong.calls _ _ y456 t459 _ ?side1 ?side2 A3.out).mono ?_
     (case side1 => repeat (first | exact (Kd.R_reads' HO458.out).2.2 | (with_reducible refine Kd.C_alloc ?_ _) | (with_reducible refine Kd.C_drewN ?_ _) | (with_reducible refine Kd.C_drew ?_)))
     (case side2 => exact (Kd.R_reads' HO458.out).2.1)
     rintro e w16 ⟨rfl,hb⟩
     refine ⟨_,rfl,?_⟩
     replace HO458 := Aside0.mk (Kd.R_below (rA HO458.out) hb)
     replace BK455 := bbA BK455 hb
     replace HB := bsA hb
     clear hb
     refine hK.out _ _ ⟨bl BK455 0,bl BK455 1⟩ (fun hHeld => ?_)
     clear hK K
     refine nw 12 ?_
     refine pV_ 3 13 (bm 13 255) HT_.out ?_
     refine one_ (i:=8) (N:=some 18) (bm 13 511) rfl rfl (one_of HT_.out (by kernel_rfl)) (by decide) (fun K hK => ?_)
     refine goes_ Try.func34 (by kernel_rfl) rfl #[.agg #[.slice A0_0 l0_0.length c0_0,.int .i64 a0_1],.string a1] (by rfl) rfl rfl mA ?_
     with_reducible refine (impl_storeCode.calls k _ _ l0_0 a0_1 a1 t460 _ ?side1 ?side2 A4.out).mono ?_
     (case side1 => exact sC HR0_0.out)
     (case side2 => exact HC0_0.out)
     rintro e w17 ⟨rfl,hb⟩
     refine ⟨_,rfl,?_⟩
     replace HO458 := Aside0.mk (Kd.R_below (rA HO458.out) hb)
     replace BK455 := bbA BK455 hb
     replace HB := bsA hb
     clear hb
     refine hK.out _ _ ⟨bl BK455 0,bl BK455 1⟩ (fun hHeld => ?_)
     clear hK K
     refine nw 18 ?_
     refine pV_ 9 19 (bm 13 1023) HT_.out ?_
     refine one_ (i:=10) (N:=some 20) (bm 13 2047) rfl rfl (one_of HT_.out (by kernel_rfl)) (by decide) (fun K hK => ?_)
     refine Kd.R_lit_step kAny _ 20 ?hg (N:=20) ?hd (xs := ([anyB t459,anyI 2,anyB true,anyI t460] : List AnyV)) (inner := [.iface 4 (.bool t459),.iface 3 (.int .i64 2),.iface 4 (.bool true),.iface 3 (.int .i64 t460)]) (ok := fun _ => True) (okp := fun _ => True) ?hr ?hp (fun _ hk => hk) trivial (Below.refl _ _) (Nat.le_refl _) (by simp) ?_; (case hd => rfl); (case hg => rfl); (case hr => first | (go_simp; done) | (go_simp; rfl)); (case hp => exact (Reps.one (show Kd.M kAny _ _ _ (anyB t459) [.iface 4 (.bool t459)] from rfl) (Reps.one (show Kd.M kAny _ _ _ (anyI 2) [.iface 3 (.int .i64 2)] from rfl) (Reps.one (show Kd.M kAny _ _ _ (anyB true) [.iface 4 (.bool true)] from rfl) (Reps.one (show Kd.M kAny _ _ _ (anyI t460) [.iface 3 (.int .i64 t460)] from rfl) (Reps.none _ _))))))
     intro v462 w18 ho19 hb hg_ hnew_
     clear hg_ hnew_
     (first | rw [← Ny461.out] at ho19 | (simp only [Int.reduceToNat] at ho19; rw [← Ny461.out] at ho19))
     replace HO458 := Aside0.mk (Kd.R_below (rA HO458.out) hb)
     have HO463 := Aside0.mk (Kd.R_lower ho19 (below_size bA))
     replace BK455 := bbA BK455 hb
     replace HB := bsA hb
     clear hb ho19
     obtain ⟨Ao20,co20,eo20⟩ := Kd.R_slice HO463.out
     (first | subst eo20 | (injection eo20 with f1_ f2_ f3_; have f4_ := f1_.symm; have f5_ := f3_.symm; clear f1_ f2_ f3_; subst f4_; subst f5_))
     refine hK.out _ _ ⟨bl BK455 0,bl BK455 1⟩ (fun hHeld => ?_)
     clear hK K
     refine nw 20 ?_
     refine one_ (i:=11) (N:=some 21) (bm 13 4095) rfl rfl (one_of HT_.out (by kernel_rfl)) (by decide) (fun K hK => ?_)
     refine goes_ Try.func23 (by kernel_rfl) rfl #[.slice Ao20 y461.length co20] (by rfl) rfl rfl mA ?_
     with_reducible refine (impl_first.calls k _ _ y461 t464 _ ?side1 ?side2 A5.out).mono ?_
     (case side1 => repeat (first | exact (Kd.R_reads' HO463.out).2.2 | (with_reducible refine Kd.C_alloc ?_ _) | (with_reducible refine Kd.C_drewN ?_ _) | (with_reducible refine Kd.C_drew ?_)))
     (case side2 => exact (Kd.R_reads' HO463.out).2.1)
     rintro e w' ⟨rfl,⟨nd,rfl⟩⟩
     refine ⟨_,rfl,?_⟩
     refine hK.out _ _ ⟨bl BK455 0,bl BK455 1⟩ (fun hHeld => ?_)
     clear hK K
     refine nw 21 ?_
     refine pV_ 12 7 (bm 13 8191) HT_.out ?_
     refine done_ (done_of HT_.out (by kernel_rfl)) ?_
     obtain ⟨hcz21_0,hcz21_1⟩ := cl2 BK455.out
     obtain ⟨hfz21_0,hfz21_1⟩ := fz2 BK455.out
     try go_wp2_with (first | ((with_reducible refine gate_callee (f:=40) rfl ?_); refine goesL_ (some 28) rfl rfl Try.func40 (by kernel_rfl) rfl #[.agg #[.slice A0_0 l0_0.length c0_0,.int .i64 a0_1],.string a1] rfl mA ?_; (with_reducible refine (impl_Store_find.calls _ _ l0_0 a0_1 a1 t465 true _ ?side1 ?side2 A7.out).mono ?_); (case side1 => exact sD HR0_0.out); (case side2 => exact HC0_0.out); rintro e w22 ⟨rfl,hb⟩; refine ⟨_,rfl,?_⟩; replace HO458 := Aside0.mk (Kd.R_below (rA HO458.out) hb); replace HO463 := Aside0.mk (Kd.R_below (rA HO463.out) hb); replace BK455 := bbA BK455 hb; replace HB := bsA hb; clear hb))
     replace HO458 := Aside0.mk (Kd.R_drew HO458.out)
     replace HO463 := Aside0.mk (Kd.R_drew HO463.out)
     replace BK455 := Aside0.mk (blk_drew BK455.out)
     replace HB := Aside0.mk (below_drew1 HB.out)
     have p467 : 0 ≤ (t465 : Int) := od
     have q467 : t465 < (l0_0.length : Int) := od
     obtain ⟨ad467,e467,hx467_0,hx467_1,hx467_2⟩ := at_T32 HR0_0.out t465 p467 q467
     have hw467_2 := hx467_2
     have hw467_1 := hx467_1
     have hw467_0 := hx467_0
     cases e467
     replace hx467_0 := cb HB.out hx467_0
     replace hx467_1 := cb HB.out hx467_1
     replace hx467_2 := cb HB.out hx467_2
     replace p467 := eq_true p467
     replace q467 := eq_true q467
     have p468 : 0 ≤ (t465 : Int) := od
     have q468 : t465 < (l0_0.length : Int) := od
     obtain ⟨ad468,e468,hx468_0,hx468_1,hx468_2⟩ := at_T32 HR0_0.out t465 p468 q468
     have hw468_2 := hx468_2
     have hw468_1 := hx468_1
     have hw468_0 := hx468_0
     obtain rfl : ad467 = ad468 := (by injection e468)
     replace hx468_0 := cb HB.out hx468_0
     replace hx468_1 := cb HB.out hx468_1
     replace hx468_2 := cb HB.out hx468_2
     replace p468 := eq_true p468
     replace q468 := eq_true q468
     refine start_ (n:=15) (S:=fun w' => w'.cell? ⟨gb455,0,none⟩ = some (.slice (some ad467) l0_0.length c0_0) ∧ w'.cell? ⟨gb455,1,none⟩ = some (.int .i64 a0_1) ∧ w'.cell? (ad467.add ((t465).toNat * 3)) = some (.string ((rd_T32 l0_0 t465).f0)) ∧ w'.cell? ⟨(ad467.add ((t465).toNat * 3)).block,(ad467.add ((t465).toNat * 3)).off + 1,none⟩ = some (.int .i64 ((rd_T32 l0_0 t465).f1)) ∧ w'.cell? ⟨(ad467.add ((t465).toNat * 3)).block,(ad467.add ((t465).toNat * 3)).off + 2,none⟩ = some (.string ((rd_T32 l0_0 t465).f2)) ∧ w'.cell? (ad467.add ((t465).toNat * 3)) = some (.string ((rd_T32 l0_0 t465).f0)) ∧ w'.cell? ⟨(ad467.add ((t465).toNat * 3)).block,(ad467.add ((t465).toNat * 3)).off + 1,none⟩ = some (.int .i64 ((rd_T32 l0_0 t465).f1)) ∧ w'.cell? ⟨(ad467.add ((t465).toNat * 3)).block,(ad467.add ((t465).toNat * 3)).off + 2,none⟩ = some (.string ((rd_T32 l0_0 t465).f2))) (ds := []) (bm 15 0) (by kernel_rfl) rfl rfl ⟨bl BK455 0,bl BK455 1,(cb HB.out hw467_0),(cb HB.out hw467_1),(cb HB.out hw467_2),(cb HB.out hw468_0),(cb HB.out hw468_1),(cb HB.out hw468_2)⟩ (fun hHeld => ?_); refine with_tabW impl_GetObject.tab7 impl_GetObject.bits7 (fun HT_ HW_ => ?_)
     generalize w22.drew = w23 at HO458 HO463 BK455 HB hx467_0 hx467_1 hx467_2 hx468_0 hx468_1 hx468_2 hHeld ⊢
     refine pV_ 0 33 (bm 15 1) HT_.out ?_
     refine pV_ 2 35 (bm 15 5) HT_.out ?_
     refine pV_ 6 39 (bm 15 69) HT_.out ?_
     refine pV_ 8 41 (bm 15 325) HT_.out ?_
     refine tk 1 34 (bm 15 327) HT_.out HW_.out hHeld ?_
     refine pV_ 3 36 (bm 15 335) HT_.out ?_
     refine pV_ 4 37 (bm 15 351) HT_.out ?_
     refine tk 5 38 (bm 15 383) HT_.out HW_.out hHeld ?_
     refine pV_ 12 4 (bm 15 4479) HT_.out ?_
     refine tk 7 40 (bm 15 4607) HT_.out HW_.out hHeld ?_
     refine pV_ 9 42 (bm 15 5119) HT_.out ?_
     refine pV_ 10 43 (bm 15 6143) HT_.out ?_
     refine tk 11 44 (bm 15 8191) HT_.out HW_.out hHeld ?_
     refine pV_ 13 5 (bm 15 16383) HT_.out ?_
     refine pV_ 14 6 (bm 15 32767) HT_.out ?_
     refine done_ (done_of HT_.out (by kernel_rfl)) ?_
     try go_wp2
     go_ret3
     exact ⟨by first | rfl | (simp [errW_none,errW_some] <;> rfl) | (simp [*,errW_none,errW_some] <;> rfl),bA⟩
    ·rw [if_neg c10] at H
     exact absurd H (by simp)
   ·rw [if_neg c9] at H
    exact absurd H (by simp)
  ·replace c8 := Bool.eq_false_iff.mpr c8
   subst c8
   rw [if_neg (show ¬ (false = true) by decide)] at H
   simp only [Option.some.injEq,Prod.mk.injEq] at H
   obtain ⟨rfl,rfl,rfl⟩ := H
   go_enter Try.func14,Try.ntmps14
   try go_wp2_with (first | ((with_reducible refine gate_dst (N:=2) rfl ?_); refine bxe (N:=2) (cs := #[.slice A0_0 l0_0.length c0_0,.int .i64 a0_1]) (t:=25) ?_; intro gb455 hg w24 hbox hb; have BK455 := Aside0.mk (hbox); have GW455 := Aside0.mk ((gw hg : w.heap.size ≤ gb455)); have GE455 := GW455; replace HB := bsA hb; clear hb hbox hg))
   replace BK455 := Aside0.mk (blk_drew BK455.out)
   replace HB := Aside0.mk (below_drew1 HB.out)
   refine start_ (n:=13) (S:=fun w' => w'.cell? ⟨gb455,0,none⟩ = some (.slice A0_0 l0_0.length c0_0) ∧ w'.cell? ⟨gb455,1,none⟩ = some (.int .i64 a0_1)) (ds := []) (bm 13 0) (by kernel_rfl) rfl rfl ⟨bl BK455 0,bl BK455 1⟩ (fun hHeld => ?_); refine with_tabW impl_GetObject.tab1 impl_GetObject.bits1 (fun HT_ HW_ => ?_)
   generalize w24.drew = w25 at BK455 HB hHeld ⊢
   refine pV_ 0 10 (bm 13 1) HT_.out ?_
   refine pV_ 4 14 (bm 13 17) HT_.out ?_
   refine pV_ 5 15 (bm 13 49) HT_.out ?_
   refine pV_ 7 17 (bm 13 177) HT_.out ?_
   refine tk 6 16 (bm 13 241) HT_.out HW_.out hHeld ?_
   refine one_ (i:=1) (N:=some 11) (bm 13 243) rfl rfl (one_of HT_.out (by kernel_rfl)) (by decide) (fun K hK => ?_)
   refine Kd.R_lit_step Kd.string _ 9 ?hg (N:=11) ?hd (xs := ([a1] : List ByteArray)) (inner := [.string a1]) (ok := fun _ => True) (okp := fun _ => True) ?hr ?hp (fun _ hk => hk) trivial (Below.refl _ _) (Nat.le_refl _) (by simp) ?_; (case hd => rfl); (case hg => rfl); (case hr => first | (go_simp; done) | (go_simp; rfl)); (case hp => exact (Reps.one (show Kd.M Kd.string _ _ _ a1 [.string a1] from rfl) (Reps.none _ _)))
   intro v457 w26 ho27 hb hg_ hnew_
   clear hg_ hnew_
   (first | rw [← Ny456.out] at ho27 | (simp only [Int.reduceToNat] at ho27; rw [← Ny456.out] at ho27))
   have HO458 := Aside0.mk (Kd.R_lower ho27 (below_size bA))
   replace BK455 := bbA BK455 hb
   replace HB := bsA hb
   clear hb ho27
   obtain ⟨Ao28,co28,eo28⟩ := Kd.R_slice HO458.out
   (first | subst eo28 | (injection eo28 with f1_ f2_ f3_; have f4_ := f1_.symm; have f5_ := f3_.symm; clear f1_ f2_ f3_; subst f4_; subst f5_))
   refine hK.out _ _ ⟨bl BK455 0,bl BK455 1⟩ (fun hHeld => ?_)
   clear hK K
   refine nw 11 ?_
   refine one_ (i:=2) (N:=some 12) (bm 13 247) rfl rfl (one_of HT_.out (by kernel_rfl)) (by decide) (fun K hK => ?_)
   refine goes_ Try.func24 (by kernel_rfl) rfl #[.slice Ao28 y456.length co28] (by rfl) rfl rfl mA ?_
   with_reducible refine (impl_isLong.calls _ _ y456 t459 _ ?side1 ?side2 A3.out).mono ?_
   (case side1 => repeat (first | exact (Kd.R_reads' HO458.out).2.2 | (with_reducible refine Kd.C_alloc ?_ _) | (with_reducible refine Kd.C_drewN ?_ _) | (with_reducible refine Kd.C_drew ?_)))
   (case side2 => exact (Kd.R_reads' HO458.out).2.1)
   rintro e w29 ⟨rfl,hb⟩
   refine ⟨_,rfl,?_⟩
   replace HO458 := Aside0.mk (Kd.R_below (rA HO458.out) hb)
   replace BK455 := bbA BK455 hb
   replace HB := bsA hb
   clear hb
   refine hK.out _ _ ⟨bl BK455 0,bl BK455 1⟩ (fun hHeld => ?_)
   clear hK K
   refine nw 12 ?_
   refine pV_ 3 13 (bm 13 255) HT_.out ?_
   refine one_ (i:=8) (N:=some 18) (bm 13 511) rfl rfl (one_of HT_.out (by kernel_rfl)) (by decide) (fun K hK => ?_)
   refine goes_ Try.func34 (by kernel_rfl) rfl #[.agg #[.slice A0_0 l0_0.length c0_0,.int .i64 a0_1],.string a1] (by rfl) rfl rfl mA ?_
   with_reducible refine (impl_storeCode.calls k _ _ l0_0 a0_1 a1 t460 _ ?side1 ?side2 A4.out).mono ?_
   (case side1 => exact sC HR0_0.out)
   (case side2 => exact HC0_0.out)
   rintro e w30 ⟨rfl,hb⟩
   refine ⟨_,rfl,?_⟩
   replace HO458 := Aside0.mk (Kd.R_below (rA HO458.out) hb)
   replace BK455 := bbA BK455 hb
   replace HB := bsA hb
   clear hb
   refine hK.out _ _ ⟨bl BK455 0,bl BK455 1⟩ (fun hHeld => ?_)
   clear hK K
   refine nw 18 ?_
   refine pV_ 9 19 (bm 13 1023) HT_.out ?_
   refine one_ (i:=10) (N:=some 20) (bm 13 2047) rfl rfl (one_of HT_.out (by kernel_rfl)) (by decide) (fun K hK => ?_)
   refine Kd.R_lit_step kAny _ 20 ?hg (N:=20) ?hd (xs := ([anyB t459,anyI 2,anyB true,anyI t460] : List AnyV)) (inner := [.iface 4 (.bool t459),.iface 3 (.int .i64 2),.iface 4 (.bool true),.iface 3 (.int .i64 t460)]) (ok := fun _ => True) (okp := fun _ => True) ?hr ?hp (fun _ hk => hk) trivial (Below.refl _ _) (Nat.le_refl _) (by simp) ?_; (case hd => rfl); (case hg => rfl); (case hr => first | (go_simp; done) | (go_simp; rfl)); (case hp => exact (Reps.one (show Kd.M kAny _ _ _ (anyB t459) [.iface 4 (.bool t459)] from rfl) (Reps.one (show Kd.M kAny _ _ _ (anyI 2) [.iface 3 (.int .i64 2)] from rfl) (Reps.one (show Kd.M kAny _ _ _ (anyB true) [.iface 4 (.bool true)] from rfl) (Reps.one (show Kd.M kAny _ _ _ (anyI t460) [.iface 3 (.int .i64 t460)] from rfl) (Reps.none _ _))))))
   intro v462 w31 ho32 hb hg_ hnew_
   clear hg_ hnew_
   (first | rw [← Ny461.out] at ho32 | (simp only [Int.reduceToNat] at ho32; rw [← Ny461.out] at ho32))
   replace HO458 := Aside0.mk (Kd.R_below (rA HO458.out) hb)
   have HO463 := Aside0.mk (Kd.R_lower ho32 (below_size bA))
   replace BK455 := bbA BK455 hb
   replace HB := bsA hb
   clear hb ho32
   obtain ⟨Ao33,co33,eo33⟩ := Kd.R_slice HO463.out
   (first | subst eo33 | (injection eo33 with f1_ f2_ f3_; have f4_ := f1_.symm; have f5_ := f3_.symm; clear f1_ f2_ f3_; subst f4_; subst f5_))
   refine hK.out _ _ ⟨bl BK455 0,bl BK455 1⟩ (fun hHeld => ?_)
   clear hK K
   refine nw 20 ?_
   refine one_ (i:=11) (N:=some 21) (bm 13 4095) rfl rfl (one_of HT_.out (by kernel_rfl)) (by decide) (fun K hK => ?_)
   refine goes_ Try.func23 (by kernel_rfl) rfl #[.slice Ao33 y461.length co33] (by rfl) rfl rfl mA ?_
   with_reducible refine (impl_first.calls k _ _ y461 t464 _ ?side1 ?side2 A5.out).mono ?_
   (case side1 => repeat (first | exact (Kd.R_reads' HO463.out).2.2 | (with_reducible refine Kd.C_alloc ?_ _) | (with_reducible refine Kd.C_drewN ?_ _) | (with_reducible refine Kd.C_drew ?_)))
   (case side2 => exact (Kd.R_reads' HO463.out).2.1)
   rintro e w' ⟨rfl,⟨nd,rfl⟩⟩
   refine ⟨_,rfl,?_⟩
   refine hK.out _ _ ⟨bl BK455 0,bl BK455 1⟩ (fun hHeld => ?_)
   clear hK K
   refine nw 21 ?_
   refine pV_ 12 7 (bm 13 8191) HT_.out ?_
   refine done_ (done_of HT_.out (by kernel_rfl)) ?_
   obtain ⟨hcz34_0,hcz34_1⟩ := cl2 BK455.out
   obtain ⟨hfz34_0,hfz34_1⟩ := fz2 BK455.out
   try go_wp2_with (first | ((with_reducible refine gate_callee (f:=40) rfl ?_); refine goesL_ (some 28) rfl rfl Try.func40 (by kernel_rfl) rfl #[.agg #[.slice A0_0 l0_0.length c0_0,.int .i64 a0_1],.string a1] rfl mA ?_; (with_reducible refine (impl_Store_find.calls _ _ l0_0 a0_1 a1 t465 false _ ?side1 ?side2 A7.out).mono ?_); (case side1 => exact sD HR0_0.out); (case side2 => exact HC0_0.out); rintro e w35 ⟨rfl,hb⟩; refine ⟨_,rfl,?_⟩; replace HO458 := Aside0.mk (Kd.R_below (rA HO458.out) hb); replace HO463 := Aside0.mk (Kd.R_below (rA HO463.out) hb); replace BK455 := bbA BK455 hb; replace HB := bsA hb; clear hb))
   go_ret3
   exact ⟨by first | rfl | (simp [errW_none,errW_some] <;> rfl) | (simp [*,errW_none,errW_some] <;> rfl),bA⟩
 ·rw [if_neg c6] at H
  have c6b0 : (t464 == 0) = false := beq_eq_false_iff_ne.mpr c6
  have c6b1 : (t464 != 0) = true := bne_iff_ne.mpr c6
  simp only [Option.some.injEq,Prod.mk.injEq] at H
  obtain ⟨rfl,rfl,rfl⟩ := H
  go_enter Try.func14,Try.ntmps14
  try go_wp2_with (first | ((with_reducible refine gate_dst (N:=2) rfl ?_); refine bxe (N:=2) (cs := #[.slice A0_0 l0_0.length c0_0,.int .i64 a0_1]) (t:=25) ?_; intro gb455 hg w36 hbox hb; have BK455 := Aside0.mk (hbox); have GW455 := Aside0.mk ((gw hg : w.heap.size ≤ gb455)); have GE455 := GW455; replace HB := bsA hb; clear hb hbox hg))
  replace BK455 := Aside0.mk (blk_drew BK455.out)
  replace HB := Aside0.mk (below_drew1 HB.out)
  refine start_ (n:=13) (S:=fun w' => w'.cell? ⟨gb455,0,none⟩ = some (.slice A0_0 l0_0.length c0_0) ∧ w'.cell? ⟨gb455,1,none⟩ = some (.int .i64 a0_1)) (ds := []) (bm 13 0) (by kernel_rfl) rfl rfl ⟨bl BK455 0,bl BK455 1⟩ (fun hHeld => ?_); refine with_tabW impl_GetObject.tab1 impl_GetObject.bits1 (fun HT_ HW_ => ?_)
  generalize w36.drew = w37 at BK455 HB hHeld ⊢
  refine pV_ 0 10 (bm 13 1) HT_.out ?_
  refine pV_ 4 14 (bm 13 17) HT_.out ?_
  refine pV_ 5 15 (bm 13 49) HT_.out ?_
  refine pV_ 7 17 (bm 13 177) HT_.out ?_
  refine tk 6 16 (bm 13 241) HT_.out HW_.out hHeld ?_
  refine one_ (i:=1) (N:=some 11) (bm 13 243) rfl rfl (one_of HT_.out (by kernel_rfl)) (by decide) (fun K hK => ?_)
  refine Kd.R_lit_step Kd.string _ 9 ?hg (N:=11) ?hd (xs := ([a1] : List ByteArray)) (inner := [.string a1]) (ok := fun _ => True) (okp := fun _ => True) ?hr ?hp (fun _ hk => hk) trivial (Below.refl _ _) (Nat.le_refl _) (by simp) ?_; (case hd => rfl); (case hg => rfl); (case hr => first | (go_simp; done) | (go_simp; rfl)); (case hp => exact (Reps.one (show Kd.M Kd.string _ _ _ a1 [.string a1] from rfl) (Reps.none _ _)))
  intro v457 w38 ho39 hb hg_ hnew_
  clear hg_ hnew_
  (first | rw [← Ny456.out] at ho39 | (simp only [Int.reduceToNat] at ho39; rw [← Ny456.out] at ho39))
  have HO458 := Aside0.mk (Kd.R_lower ho39 (below_size bA))
  replace BK455 := bbA BK455 hb
  replace HB := bsA hb
  clear hb ho39
  obtain ⟨Ao40,co40,eo40⟩ := Kd.R_slice HO458.out
  (first | subst eo40 | (injection eo40 with f1_ f2_ f3_; have f4_ := f1_.symm; have f5_ := f3_.symm; clear f1_ f2_ f3_; subst f4_; subst f5_))
  refine hK.out _ _ ⟨bl BK455 0,bl BK455 1⟩ (fun hHeld => ?_)
  clear hK K
  refine nw 11 ?_
  refine one_ (i:=2) (N:=some 12) (bm 13 247) rfl rfl (one_of HT_.out (by kernel_rfl)) (by decide) (fun K hK => ?_)
  refine goes_ Try.func24 (by kernel_rfl) rfl #[.slice Ao40 y456.length co40] (by rfl) rfl rfl mA ?_
  with_reducible refine (impl_isLong.calls _ _ y456 t459 _ ?side1 ?side2 A3.out).mono ?_
  (case side1 => repeat (first | exact (Kd.R_reads' HO458.out).2.2 | (with_reducible refine Kd.C_alloc ?_ _) | (with_reducible refine Kd.C_drewN ?_ _) | (with_reducible refine Kd.C_drew ?_)))
  (case side2 => exact (Kd.R_reads' HO458.out).2.1)
  rintro e w41 ⟨rfl,hb⟩
  refine ⟨_,rfl,?_⟩
  replace HO458 := Aside0.mk (Kd.R_below (rA HO458.out) hb)
  replace BK455 := bbA BK455 hb
  replace HB := bsA hb
  clear hb
  refine hK.out _ _ ⟨bl BK455 0,bl BK455 1⟩ (fun hHeld => ?_)
  clear hK K
  refine nw 12 ?_
  refine pV_ 3 13 (bm 13 255) HT_.out ?_
  refine one_ (i:=8) (N:=some 18) (bm 13 511) rfl rfl (one_of HT_.out (by kernel_rfl)) (by decide) (fun K hK => ?_)
  refine goes_ Try.func34 (by kernel_rfl) rfl #[.agg #[.slice A0_0 l0_0.length c0_0,.int .i64 a0_1],.string a1] (by rfl) rfl rfl mA ?_
  with_reducible refine (impl_storeCode.calls k _ _ l0_0 a0_1 a1 t460 _ ?side1 ?side2 A4.out).mono ?_
  (case side1 => exact sC HR0_0.out)
  (case side2 => exact HC0_0.out)
  rintro e w42 ⟨rfl,hb⟩
  refine ⟨_,rfl,?_⟩
  replace HO458 := Aside0.mk (Kd.R_below (rA HO458.out) hb)
  replace BK455 := bbA BK455 hb
  replace HB := bsA hb
  clear hb
  refine hK.out _ _ ⟨bl BK455 0,bl BK455 1⟩ (fun hHeld => ?_)
  clear hK K
  refine nw 18 ?_
  refine pV_ 9 19 (bm 13 1023) HT_.out ?_
  refine one_ (i:=10) (N:=some 20) (bm 13 2047) rfl rfl (one_of HT_.out (by kernel_rfl)) (by decide) (fun K hK => ?_)
  refine Kd.R_lit_step kAny _ 20 ?hg (N:=20) ?hd (xs := ([anyB t459,anyI 2,anyB true,anyI t460] : List AnyV)) (inner := [.iface 4 (.bool t459),.iface 3 (.int .i64 2),.iface 4 (.bool true),.iface 3 (.int .i64 t460)]) (ok := fun _ => True) (okp := fun _ => True) ?hr ?hp (fun _ hk => hk) trivial (Below.refl _ _) (Nat.le_refl _) (by simp) ?_; (case hd => rfl); (case hg => rfl); (case hr => first | (go_simp; done) | (go_simp; rfl)); (case hp => exact (Reps.one (show Kd.M kAny _ _ _ (anyB t459) [.iface 4 (.bool t459)] from rfl) (Reps.one (show Kd.M kAny _ _ _ (anyI 2) [.iface 3 (.int .i64 2)] from rfl) (Reps.one (show Kd.M kAny _ _ _ (anyB true) [.iface 4 (.bool true)] from rfl) (Reps.one (show Kd.M kAny _ _ _ (anyI t460) [.iface 3 (.int .i64 t460)] from rfl) (Reps.none _ _))))))
  intro v462 w43 ho44 hb hg_ hnew_
  clear hg_ hnew_
  (first | rw [← Ny461.out] at ho44 | (simp only [Int.reduceToNat] at ho44; rw [← Ny461.out] at ho44))
  replace HO458 := Aside0.mk (Kd.R_below (rA HO458.out) hb)
  have HO463 := Aside0.mk (Kd.R_lower ho44 (below_size bA))
  replace BK455 := bbA BK455 hb
  replace HB := bsA hb
  clear hb ho44
  obtain ⟨Ao45,co45,eo45⟩ := Kd.R_slice HO463.out
  (first | subst eo45 | (injection eo45 with f1_ f2_ f3_; have f4_ := f1_.symm; have f5_ := f3_.symm; clear f1_ f2_ f3_; subst f4_; subst f5_))
  refine hK.out _ _ ⟨bl BK455 0,bl BK455 1⟩ (fun hHeld => ?_)
  clear hK K
  refine nw 20 ?_
  refine one_ (i:=11) (N:=some 21) (bm 13 4095) rfl rfl (one_of HT_.out (by kernel_rfl)) (by decide) (fun K hK => ?_)
  refine goes_ Try.func23 (by kernel_rfl) rfl #[.slice Ao45 y461.length co45] (by rfl) rfl rfl mA ?_
  with_reducible refine (impl_first.calls k _ _ y461 t464 _ ?side1 ?side2 A5.out).mono ?_
  (case side1 => repeat (first | exact (Kd.R_reads' HO463.out).2.2 | (with_reducible refine Kd.C_alloc ?_ _) | (with_reducible refine Kd.C_drewN ?_ _) | (with_reducible refine Kd.C_drew ?_)))
  (case side2 => exact (Kd.R_reads' HO463.out).2.1)
  rintro e w' ⟨rfl,⟨nd,rfl⟩⟩
  refine ⟨_,rfl,?_⟩
  refine hK.out _ _ ⟨bl BK455 0,bl BK455 1⟩ (fun hHeld => ?_)
  clear hK K
  refine nw 21 ?_
  refine pV_ 12 7 (bm 13 8191) HT_.out ?_
  refine done_ (done_of HT_.out (by kernel_rfl)) ?_
  try go_wp2
  go_ret3
  exact ⟨by first | rfl | (simp [errW_none,errW_some] <;> rfl) | (simp [*,errW_none,errW_some] <;> rfl),bA⟩

end Go.Proofs.Ytgkfemnfbkgeiaa.XFnStore
