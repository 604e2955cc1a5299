-- Printed by this session's own program wip/tools/xprint.py, which widens the kit's print. Not trusted: Lean checks it.
import Derived.Test.YtgkfemnfbkgeiaaXFnCasx0
import Derived.Test.YtgkfemnfbkgeiaaXFnCasx6
import Derived.Test.YtgkfemnfbkgeiaaXFnCasx8
import Derived.Test.YtgkfemnfbkgeiaaXFnCasx9
import Derived.Test.YtgkfemnfbkgeiaaXFnCasx12
namespace Go.Proofs.Ytgkfemnfbkgeiaa.XFnCas
open List (setIfInBounds_toArray set_cons_zero set_cons_succ)
open Go.RowKit Go.Proofs.YtgkfemnfbkgeiaaW.PrintWords Go.Proofs.YtgkfemnfbkgeiaaW.PrintLast Go.Proofs.YtgkfemnfbkgeiaaW.PrintMore
attribute [local go_sem] max2_int min2_int max_two min_two max_three min_three max_four min_four   -- for this text's walks alone
set_option linter.unusedVariables false
set_option linter.unusedSimpArgs false

/-! ### impl_PutVersion: function 20 -/
def impl_PutVersion.f (k : Nat) (l0_0 : List (S32)) (a0_1 : Int) (a1 : ByteArray) (a2 : Int) (a3 : ByteArray) : Option ((List (S32)) × Int × Int × Int) := (impl_isLong.f (([a1,a3] : List ByteArray))).bind fun t474 => ((impl_storeCode.f k l0_0 a0_1 a1).bind fun t475 => ((impl_first.f k (([anyB t474,anyI 2,anyB true,anyI t475] : List AnyV))).bind fun t479 => (if t479 = 0 then ((impl_Store_versionCode.f k l0_0 a0_1 a1 a2).bind fun t480 => (if t480 = 0 then ((impl_Store_put.f k l0_0 a0_1 a1 a3).bind fun bt481 => ((impl_Store_copied.f bt481.1 bt481.2.1).bind fun bt488 => (some (bt488.1,bt488.2,bt481.2.2.1,bt481.2.2.2)))) else ((impl_Store_copied.f l0_0 a0_1).bind fun bt492 => (some (bt492.1,bt492.2,0,t480))))) else (some (([] : List (S32)),0,0,t479)))))
theorem impl_PutVersion.mono : ∀ a0 a1 a2 a3 a4 k,LeO (impl_PutVersion.f k a0 a1 a2 a3 a4) (impl_PutVersion.f (k + 1) a0 a1 a2 a3 a4) := by
 intro a0 a1 a2 a3 a4 k
 unfold impl_PutVersion.f
 repeat' first
 | (with_reducible first | exact impl_Store_put.mono .. | exact impl_Store_versionCode.mono .. | exact impl_first.mono .. | exact impl_storeCode.mono .. | exact LeO.refl _ | exact LeO.none _ | refine LeO.ite ?_ ?_ | refine LeO.bind ?_ (fun _ => ?_))
 | exact LeO.none _ | refine LeO.ite ?_ ?_ | refine LeO.bind ?_ (fun _ => ?_)
def impl_PutVersion.T1 : Bool × List (List Nat × List Nat) := (true,[([],[]),([],[]),([0,1],[0,1]),([2],[2]),([3],[3]),([],[]),([],[]),([],[]),([],[]),([7,8,3],[7,8]),([9],[9]),([4,5,6,10],[4,5,6,10]),([11,9],[11]),([12,12,0,1,2,3,4,5,6,7,8,9,10,11,12],[12])])
def impl_PutVersion.B1 : List Nat := [0,0,3,7,15,0,0,0,0,399,911,2047,4095,8191]
theorem impl_PutVersion.tab1 : rtab .any (opsOf Try.f20 1) = impl_PutVersion.T1 := by kernel_rfl
theorem impl_PutVersion.bits1 : waitsOk impl_PutVersion.T1.2 impl_PutVersion.B1 = true := by kernel_rfl
set_option maxHeartbeats 8000000 in
set_option maxRecDepth 100000 in
theorem impl_PutVersion.calls (k : Nat) (A0_0 : Option Addr) (c0_0 : Nat) (l0_0 : List (S32)) (a0_1 : Int) (a1 : ByteArray) (a2 : Int) (a3 : ByteArray) (r1 : List (S32)) (r2 : Int) (r3 : Int) (r4 : Int) (w : World) (hr0_0 : Kd.C k32 w A0_0 l0_0.length l0_0) (hc0_0 : l0_0.length ≤ c0_0) (h : impl_PutVersion.f k l0_0 a0_1 a1 a2 a3 = some (r1,r2,r3,r4)) :
  Calls Try.prog 20 #[.agg #[.slice A0_0 l0_0.length c0_0,.int .i64 a0_1],.string a1,.int .i64 a2,.string a3] w fun e w' => ∃ v0_ : Value,e = .returned (.tuple #[.agg #[v0_,.int .i64 r2],.int .i64 r3,.int .i64 r4]) ∧ Kd.R k32 32 w' w.heap.size (fun _ => True) v0_ r1 ∧ Below w.heap.size w w' := by
 have hu25 := Try.underlying25
 have hua20 := Try.underlying20
 have HR0_0 := Aside0.mk hr0_0
 have HC0_0 := Aside0.mk hc0_0
 clear hr0_0 hc0_0
 have HB := Aside0.mk (Below.refl w.heap.size w)
 have H : ((impl_isLong.f (([a1,a3] : List ByteArray))).bind fun t474 => ((impl_storeCode.f k l0_0 a0_1 a1).bind fun t475 => ((impl_first.f k (([anyB t474,anyI 2,anyB true,anyI t475] : List AnyV))).bind fun t479 => (if t479 = 0 then ((impl_Store_versionCode.f k l0_0 a0_1 a1 a2).bind fun t480 => (if t480 = 0 then ((impl_Store_put.f k l0_0 a0_1 a1 a3).bind fun bt481 => ((impl_Store_copied.f bt481.1 bt481.2.1).bind fun bt488 => (some (bt488.1,bt488.2,bt481.2.2.1,bt481.2.2.2)))) else ((impl_Store_copied.f l0_0 a0_1).bind fun bt492 => (some (bt492.1,bt492.2,0,t480))))) else (some (([] : List (S32)),0,0,t479)))))) = some (r1,r2,r3,r4) := h
 clear h
 obtain ⟨y471,hy471⟩ : ∃ y_ : List ByteArray,y_ = (([a1,a3] : List ByteArray)) := ⟨_,rfl⟩
 replace H : ((impl_isLong.f y471).bind fun t474 => ((impl_storeCode.f k l0_0 a0_1 a1).bind fun t475 => ((impl_first.f k (([anyB t474,anyI 2,anyB true,anyI t475] : List AnyV))).bind fun t479 => (if t479 = 0 then ((impl_Store_versionCode.f k l0_0 a0_1 a1 a2).bind fun t480 => (if t480 = 0 then ((impl_Store_put.f k l0_0 a0_1 a1 a3).bind fun bt481 => ((impl_Store_copied.f bt481.1 bt481.2.1).bind fun bt488 => (some (bt488.1,bt488.2,bt481.2.2.1,bt481.2.2.2)))) else ((impl_Store_copied.f l0_0 a0_1).bind fun bt492 => (some (bt492.1,bt492.2,0,t480))))) else (some (([] : List (S32)),0,0,t479)))))) = some (r1,r2,r3,r4) := by first | (rw [hy471]; with_reducible exact H) | (have H2_ := (Option.bind_some _ _).symm.trans H; rw [hy471]; with_reducible exact H2_) | (have H2_ := (Option.bind_some _ _).symm.trans H; with_reducible exact H2_) | with_reducible exact H | (rw [hy471]; exact H) | exact H
 have Ny471 := Aside0.mk hy471
 clear hy471
 replace H := Option.bind_eq_some_iff.mp H
 obtain ⟨t474,A50,H⟩ := H
 try dsimp only at H
 have A5 := Aside0.mk A50
 clear A50
 replace H := Option.bind_eq_some_iff.mp H
 obtain ⟨t475,A60,H⟩ := H
 try dsimp only at H
 have A6 := Aside0.mk A60
 clear A60
 obtain ⟨y476,hy476⟩ : ∃ y_ : List AnyV,y_ = (([anyB t474,anyI 2,anyB true,anyI t475] : List AnyV)) := ⟨_,rfl⟩
 replace H : ((impl_first.f k y476).bind fun t479 => (if t479 = 0 then ((impl_Store_versionCode.f k l0_0 a0_1 a1 a2).bind fun t480 => (if t480 = 0 then ((impl_Store_put.f k l0_0 a0_1 a1 a3).bind fun bt481 => ((impl_Store_copied.f bt481.1 bt481.2.1).bind fun bt488 => (some (bt488.1,bt488.2,bt481.2.2.1,bt481.2.2.2)))) else ((impl_Store_copied.f l0_0 a0_1).bind fun bt492 => (some (bt492.1,bt492.2,0,t480))))) else (some (([] : List (S32)),0,0,t479)))) = some (r1,r2,r3,r4) := by first | (rw [hy476]; with_reducible exact H) | (have H2_ := (Option.bind_some _ _).symm.trans H; rw [hy476]; with_reducible exact H2_) | (have H2_ := (Option.bind_some _ _).symm.trans H; with_reducible exact H2_) | with_reducible exact H | (rw [hy476]; exact H) | exact H
 have Ny476 := Aside0.mk hy476
 clear hy476
 replace H := Option.bind_eq_some_iff.mp H
 obtain ⟨t479,A70,H⟩ := H
 try dsimp only at H
 have A7 := Aside0.mk A70
 clear A70
 by_cases c8 : t479 = 0
 ·rw [if_pos c8] at H
  have c8b0 : (t479 == 0) = true := beq_iff_eq.mpr c8
  have c8b1 : (t479 != 0) = false := bne_eq_false_iff_eq.mpr c8
  clear c8
  replace H := Option.bind_eq_some_iff.mp H
  obtain ⟨t480,A90,H⟩ := H
  try dsimp only at H
  have A9 := Aside0.mk A90
  clear A90
  by_cases c10 : t480 = 0
  ·rw [if_pos c10] at H
   have c10b0 : (t480 == 0) = true := beq_iff_eq.mpr c10
   have c10b1 : (t480 != 0) = false := bne_eq_false_iff_eq.mpr c10
   clear c10
   replace H := Option.bind_eq_some_iff.mp H
   obtain ⟨⟨t481,t484,t485,t486⟩,A110,H⟩ := H
   try dsimp only at H
   have A11 := Aside0.mk A110
   clear A110
   replace H := Option.bind_eq_some_iff.mp H
   obtain ⟨⟨t488,t491⟩,A120,H⟩ := H
   try dsimp only at H
   have A12 := Aside0.mk A120
   clear A120
   simp only [Option.some.injEq,Prod.mk.injEq] at H
   obtain ⟨rfl,rfl,rfl,rfl⟩ := H
   go_enter Try.func20,Try.ntmps20
   try go_wp2_with (first | ((with_reducible refine gate_dst (N:=4) rfl ?_); refine box_event ?hg (N:=4) ?hd (cs := #[.slice A0_0 l0_0.length c0_0,.int .i64 a0_1]) (t:=25) ?hr ?_; (case hd => rfl); (case hg => rfl); (case hr => first | (go_simp; done) | (go_simp; rfl)); intro gb469 hg w13 hbox hb; have BK469 := Aside0.mk (hbox); have GW469 := Aside0.mk ((gw hg : w.heap.size ≤ gb469)); have GE469 := Aside0.mk ((gw hg : w.heap.size ≤ gb469)); replace HB := Aside0.mk (below_step bA hb); clear hb hbox hg) | ((with_reducible refine gate_dst (N:=8) rfl ?_); refine box_event ?hg (N:=8) ?hd (cs := #[.slice none 0 0,.int .i64 0]) (t:=25) ?hr ?_; (case hd => rfl); (case hg => rfl); (case hr => first | (go_simp; done) | (go_simp; rfl)); intro gb470 hg w14 hbox hb; have BK470 := Aside0.mk (hbox); have GW470 := Aside0.mk ((gw hg : w.heap.size ≤ gb470)); have GE470 := Aside0.mk ((gw hg : w.heap.size ≤ gb470)); replace HB := Aside0.mk (below_step bA hb); have NB469_470 := Aside0.mk ((nl hg BK469.out)); have NB470_469 := Aside0.mk ((ng hg BK469.out)); replace BK469 := Aside0.mk (bb BK469.out hb); clear hb hbox hg))
   replace BK469 := Aside0.mk (blk_drew BK469.out)
   replace BK470 := Aside0.mk (blk_drew BK470.out)
   replace HB := Aside0.mk (below_drew1 HB.out)
   refine start_ (n:=14) (S:=fun w' => w'.cell? ⟨gb469,0,none⟩ = some (.slice A0_0 l0_0.length c0_0) ∧ w'.cell? ⟨gb469,1,none⟩ = some (.int .i64 a0_1)) (ds := []) (bm 14 0) (by kernel_rfl) rfl rfl ⟨bl BK469 0,bl BK469 1⟩ (fun hHeld => ?_); refine with_tabW impl_PutVersion.tab1 impl_PutVersion.bits1 (fun HT_ HW_ => ?_)
   generalize w14.drew = w15 at BK469 BK470 HB hHeld ⊢
   refine pV_ 0 16 (bm 14 1) HT_.out ?_
   refine pV_ 1 17 (bm 14 3) HT_.out ?_
   refine pV_ 5 21 (bm 14 35) HT_.out ?_
   refine pV_ 6 22 (bm 14 99) HT_.out ?_
   refine pV_ 8 24 (bm 14 355) HT_.out ?_
   refine take_ (i:=7) (N:=some 23) (v:=?_) (a':=?_) (bm 14 483) rfl rfl (take_ofW HT_.out HW_.out (by kernel_rfl)) (fun _ _ _ h => h) (Or.inl ⟨by rfl,?_⟩) hHeld ?_ ?_
   rotate_left
   ·rintro w' ⟨s0,s1⟩
    go_simp
    with_reducible rfl
   rotate_left
   ·simp only [Act.put,setIfInBounds_toArray,set_cons_zero,set_cons_succ,i64_w,i32_w]
    rfl
   refine one_ (i:=2) (N:=some 18) (bm 14 487) rfl rfl (one_of HT_.out (by kernel_rfl)) (by decide) (fun K hK => ?_)
   refine Kd.R_lit_step Kd.string _ 9 ?hg (N:=18) ?hd (xs := ([a1,a3] : List ByteArray)) (inner := [.string a1,.string a3]) (ok := fun _ => True) (okp := fun _ => True) ?hr ?hp (fun _ hk => hk) trivial (Below.refl _ _) (Nat.le_refl _) (by simp) ?_; (case hd => rfl); (case hg => rfl); (case hr => first | (go_simp; done) | (go_simp; rfl)); (case hp => exact (Reps.one (show Kd.M Kd.string _ _ _ a1 [.string a1] from rfl) (Reps.one (show Kd.M Kd.string _ _ _ a3 [.string a3] from rfl) (Reps.none _ _))))
   intro v472 w16 ho17 hb hg_ hnew_
   clear hg_ hnew_
   (first | rw [← Ny471.out] at ho17 | (simp only [Int.reduceToNat] at ho17; rw [← Ny471.out] at ho17))
   have HO473 := Aside0.mk (Kd.R_lower ho17 (below_size bA))
   replace BK469 := Aside0.mk (bb BK469.out hb)
   replace BK470 := Aside0.mk (bb BK470.out hb)
   replace HB := Aside0.mk (below_step bA hb)
   clear hb ho17
   obtain ⟨Ao18,co18,eo18⟩ := Kd.R_slice HO473.out
   (first | subst eo18 | (injection eo18 with f1_ f2_ f3_; have f4_ := f1_.symm; have f5_ := f3_.symm; clear f1_ f2_ f3_; subst f4_; subst f5_))
   refine hK.out _ _ ⟨bl BK469 0,bl BK469 1⟩ (fun hHeld => ?_)
   clear hK K
   refine norm_ (a':=?_) ?_ ?_
   rotate_left
   ·show Act.put _ (some 18) _ = _
    simp only [Act.put,setIfInBounds_toArray,set_cons_zero,set_cons_succ,i64_w,i32_w]
    rfl
   refine one_ (i:=3) (N:=some 19) (bm 14 495) rfl rfl (one_of HT_.out (by kernel_rfl)) (by decide) (fun K hK => ?_)
   refine goes_ Try.func24 (by kernel_rfl) rfl #[.slice Ao18 y471.length co18] (by rfl) rfl rfl mA ?_
   with_reducible refine (impl_isLong.calls _ _ y471 t474 _ ?side1 ?side2 A5.out).mono ?_
   (case side1 => repeat (first | exact (Kd.R_reads' HO473.out).2.2 | (with_reducible refine Kd.C_alloc ?_ _) | (with_reducible refine Kd.C_drewN ?_ _) | (with_reducible refine Kd.C_drew ?_)))
   (case side2 => exact (Kd.R_reads' HO473.out).2.1)
   rintro e w19 ⟨rfl,hb⟩
   refine ⟨_,rfl,?_⟩
   replace HO473 := Aside0.mk (Kd.R_below (rA HO473.out) hb)
   replace BK469 := Aside0.mk (bb BK469.out hb)
   replace BK470 := Aside0.mk (bb BK470.out hb)
   replace HB := Aside0.mk (below_step bA hb)
   clear hb
   refine hK.out _ _ ⟨bl BK469 0,bl BK469 1⟩ (fun hHeld => ?_)
   clear hK K
   refine norm_ (a':=?_) ?_ ?_
   rotate_left
   ·show Act.put _ (some 19) _ = _
    simp only [Act.put,setIfInBounds_toArray,set_cons_zero,set_cons_succ,i64_w,i32_w]
    rfl
   refine pV_ 4 20 (bm 14 511) HT_.out ?_
   refine one_ (i:=9) (N:=some 25) (bm 14 1023) rfl rfl (one_of HT_.out (by kernel_rfl)) (by decide) (fun K hK => ?_)
   refine goes_ Try.func34 (by kernel_rfl) rfl #[.agg #[.slice A0_0 l0_0.length c0_0,.int .i64 a0_1],.string a1] (by rfl) rfl rfl mA ?_
   with_reducible refine (impl_storeCode.calls k _ _ l0_0 a0_1 a1 t475 _ ?side1 ?side2 A6.out).mono ?_
   (case side1 => exact sC HR0_0.out)
   (case side2 => exact HC0_0.out)
   rintro e w20 ⟨rfl,hb⟩
   refine ⟨_,rfl,?_⟩
   replace HO473 := Aside0.mk (Kd.R_below (rA HO473.out) hb)
   replace BK469 := Aside0.mk (bb BK469.out hb)
   replace BK470 := Aside0.mk (bb BK470.out hb)
   replace HB := Aside0.mk (below_step bA hb)
   clear hb
   refine hK.out _ _ ⟨bl BK469 0,bl BK469 1⟩ (fun hHeld => ?_)
   clear hK K
   refine norm_ (a':=?_) ?_ ?_
   rotate_left
   ·show Act.put _ (some 25) _ = _
    simp only [Act.put,setIfInBounds_toArray,set_cons_zero,set_cons_succ,i64_w,i32_w]
    rfl
   refine pV_ 10 26 (bm 14 2047) HT_.out ?_
   refine one_ (i:=11) (N:=some 27) (bm 14 4095) rfl rfl (one_of HT_.out (by kernel_rfl)) (by decide) (fun K hK => ?_)
   refine Kd.R_lit_step kAny _ 20 ?hg (N:=27) ?hd (xs := ([anyB t474,anyI 2,anyB true,anyI t475] : List AnyV)) (inner := [.iface 4 (.bool t474),.iface 3 (.int .i64 2),.iface 4 (.bool true),.iface 3 (.int .i64 t475)]) (ok := fun _ => True) (okp := fun _ => True) ?hr ?hp (fun _ hk => hk) trivial (Below.refl _ _) (Nat.le_refl _) (by simp) ?_; (case hd => rfl); (case hg => rfl); (case hr => first | (go_simp; done) | (go_simp; rfl)); (case hp => exact (Reps.one (show Kd.M kAny _ _ _ (anyB t474) [.iface 4 (.bool t474)] from rfl) (Reps.one (show Kd.M kAny _ _ _ (anyI 2) [.iface 3 (.int .i64 2)] from rfl) (Reps.one (show Kd.M kAny _ _ _ (anyB true) [.iface 4 (.bool true)] from rfl) (Reps.one (show Kd.M kAny _ _ _ (anyI t475) [.iface 3 (.int .i64 t475)] from rfl) (Reps.none _ _))))))
   intro v477 w21 ho22 hb hg_ hnew_
   clear hg_ hnew_
   (first | rw [← Ny476.out] at ho22 | (simp only [Int.reduceToNat] at ho22; rw [← Ny476.out] at ho22))
   replace HO473 := Aside0.mk (Kd.R_below (rA HO473.out) hb)
   have HO478 := Aside0.mk (Kd.R_lower ho22 (below_size bA))
   replace BK469 := Aside0.mk (bb BK469.out hb)
   replace BK470 := Aside0.mk (bb BK470.out hb)
   replace HB := Aside0.mk (below_step bA hb)
   clear hb ho22
   obtain ⟨Ao23,co23,eo23⟩ := Kd.R_slice HO478.out
   (first | subst eo23 | (injection eo23 with f1_ f2_ f3_; have f4_ := f1_.symm; have f5_ := f3_.symm; clear f1_ f2_ f3_; subst f4_; subst f5_))
   refine hK.out _ _ ⟨bl BK469 0,bl BK469 1⟩ (fun hHeld => ?_)
   clear hK K
   refine norm_ (a':=?_) ?_ ?_
   rotate_left
   ·show Act.put _ (some 27) _ = _
    simp only [Act.put,setIfInBounds_toArray,set_cons_zero,set_cons_succ,i64_w,i32_w]
    rfl
   refine one_ (i:=12) (N:=some 28) (bm 14 8191) rfl rfl (one_of HT_.out (by kernel_rfl)) (by decide) (fun K hK => ?_)
   refine goes_ Try.func23 (by kernel_rfl) rfl #[.slice Ao23 y476.length co23] (by rfl) rfl rfl mA ?_
   with_reducible refine (impl_first.calls k _ _ y476 t479 _ ?side1 ?side2 A7.out).mono ?_
   (case side1 => repeat (first | exact (Kd.R_reads' HO478.out).2.2 | (with_reducible refine Kd.C_alloc ?_ _) | (with_reducible refine Kd.C_drewN ?_ _) | (with_reducible refine Kd.C_drew ?_)))
   (case side2 => exact (Kd.R_reads' HO478.out).2.1)
   rintro e w' ⟨rfl,⟨nd,rfl⟩⟩
   refine ⟨_,rfl,?_⟩
   refine hK.out _ _ ⟨bl BK469 0,bl BK469 1⟩ (fun hHeld => ?_)
   clear hK K
   refine norm_ (a':=?_) ?_ ?_
   rotate_left
   ·show Act.put _ (some 28) _ = _
    simp only [Act.put,setIfInBounds_toArray,set_cons_zero,set_cons_succ,i64_w,i32_w]
    rfl
   refine pV_ 13 11 (bm 14 16383) HT_.out ?_
   refine done_ (done_of HT_.out (by kernel_rfl)) ?_
   have hnb24 := NB469_470.out
   have hnc24 := NB470_469.out
   obtain ⟨hcz25_0,hcz25_1⟩ := cl2 BK469.out
   obtain ⟨hfz25_0,hfz25_1⟩ := fz2 BK469.out
   try go_wp2_with (first | ((with_reducible refine gate_callee (f:=41) rfl ?_); refine goesL_ (some 36) rfl rfl Try.func41 (by kernel_rfl) rfl #[.agg #[.slice A0_0 l0_0.length c0_0,.int .i64 a0_1],.string a1,.int .i64 a2] rfl mA ?_; (with_reducible refine (impl_Store_versionCode.calls k _ _ l0_0 a0_1 a1 a2 t480 _ ?side1 ?side2 A9.out).mono ?_); (case side1 => exact sD HR0_0.out); (case side2 => exact HC0_0.out); rintro e w26 ⟨rfl,hb⟩; refine ⟨_,rfl,?_⟩; replace HO473 := Aside0.mk (Kd.R_below (rA HO473.out) hb); replace HO478 := Aside0.mk (Kd.R_below (rA HO478.out) hb); replace BK469 := Aside0.mk (bb BK469.out hb); replace BK470 := Aside0.mk (bb BK470.out hb); replace HB := Aside0.mk (below_step bA hb); clear hb; obtain ⟨hcz27_0,hcz27_1⟩ := cl2 BK469.out; obtain ⟨hfz27_0,hfz27_1⟩ := fz2 BK469.out) | ((with_reducible refine gate_callee (f:=44) rfl ?_); refine goesL_ (some 46) rfl rfl Try.func44 (by kernel_rfl) rfl #[.agg #[.slice A0_0 l0_0.length c0_0,.int .i64 a0_1],.string a1,.string a3] rfl mA ?_; (with_reducible refine (impl_Store_put.calls k (fun k_ => k_ < w.heap.size) _ _ l0_0 a0_1 a1 a3 t481 t484 t485 t486 _ ?side1 A11.out).mono ?_); (case side1 => exact Kd.V_mk HC0_0.out (Kd.F_below (Kd.C_F k32_heap HR0_0.out) bA)); rintro e w28 ⟨v482,rfl,ho0,hb⟩; refine ⟨_,rfl,?_⟩; have HO483 := Aside0.mk (Kd.V_lower (Kd.V_mono (ok' := fun k_ => some k_ ≠ (.slice Ao18 y471.length co18 : Value).ownBlock ∧ some k_ ≠ (.slice Ao23 y476.length co23 : Value).ownBlock ∧ k_ ≠ gb469 ∧ k_ ≠ gb470) ho0 (fun k_ hk_ => ⟨Or.elim hk_ (fun hs_ => fun e_ => Nat.not_le.2 hs_ (Kd.R_base HO473.out k_ e_.symm)) (fun hn_ => (Kd.fresh' (Kd.R_lt (rA HO473.out)) k_ hn_)),Or.elim hk_ (fun hs_ => fun e_ => Nat.not_le.2 hs_ (Kd.R_base HO478.out k_ e_.symm)) (fun hn_ => (Kd.fresh' (Kd.R_lt (rA HO478.out)) k_ hn_)),Or.elim hk_ (fun hs_ => fun e_ => Nat.not_le.2 hs_ (by rw [e_]; exact GW469.out)) (fun hn_ => (fB BK469.out k_ hn_)),Or.elim hk_ (fun hs_ => fun e_ => Nat.not_le.2 hs_ (by rw [e_]; exact GW470.out)) (fun hn_ => (fB BK470.out k_ hn_))⟩)) (below_size bA)); replace HO473 := Aside0.mk (Kd.R_below (rA HO473.out) hb); replace HO478 := Aside0.mk (Kd.R_below (rA HO478.out) hb); replace BK469 := Aside0.mk (bb BK469.out hb); replace BK470 := Aside0.mk (bb BK470.out hb); replace HB := Aside0.mk (below_step bA hb); clear hb; (try clear ho0)) | ((with_reducible refine gate_dst (N:=13) rfl ?_); refine box_event ?hg (N:=13) ?hd (cs := #[.slice none 0 0,.int .i64 0]) (t:=25) ?hr ?_; (case hd => rfl); (case hg => rfl); (case hr => first | (go_simp; done) | (go_simp; rfl)); intro gb487 hg w29 hbox hb; replace HO473 := Aside0.mk (Kd.R_below (rA HO473.out) hb); replace HO478 := Aside0.mk (Kd.R_below (rA HO478.out) hb); replace HO483 := Aside0.mk (Kd.V_below (Kd.V_elderB (vA HO483.out) gb487 (Nat.le_of_eq hg.symm)) hb); have BK487 := Aside0.mk (hbox); have GW487 := Aside0.mk ((gw hg : w.heap.size ≤ gb487)); have GE487 := Aside0.mk ((gw hg : w.heap.size ≤ gb487)); replace HB := Aside0.mk (below_step bA hb); have NB469_487 := Aside0.mk ((nl hg BK469.out)); have NB487_469 := Aside0.mk ((ng hg BK469.out)); replace BK469 := Aside0.mk (bb BK469.out hb); have NB470_487 := Aside0.mk ((nl hg BK470.out)); have NB487_470 := Aside0.mk ((ng hg BK470.out)); replace BK470 := Aside0.mk (bb BK470.out hb); clear hb hbox hg; obtain ⟨Ao30,co30,eo30⟩ := Kd.V_slice HO483.out; subst eo30; have hnb31 := NB487_469.out; have hnc31 := NB469_487.out; have hnb32 := NB487_470.out; have hnc32 := NB470_487.out; obtain ⟨hcz33_0,hcz33_1⟩ := cl2 BK487.out; obtain ⟨hfz33_0,hfz33_1⟩ := fz2 BK487.out) | ((with_reducible refine gate_callee (f:=36) rfl ?_); refine goesL_ (some 51) rfl rfl Try.func36 (by kernel_rfl) rfl #[.agg #[.slice Ao30 t481.length co30,.int .i64 t484]] rfl mA ?_; (with_reducible refine (impl_Store_copied.calls _ _ t481 t484 t488 t491 _ ?side1 ?side2 A12.out).mono ?_); (case side1 => refine (Kd.V_reads' (e:=32) (base := w.heap.size) (ok := fun k_ => ((some k_ ≠ (.slice Ao18 y471.length co18 : Value).ownBlock ∧ (some k_ ≠ (.slice Ao23 y476.length co23 : Value).ownBlock ∧ (k_ ≠ gb469 ∧ k_ ≠ gb470))) ∧ k_ ≠ gb487)) (n:=t481.length) (c:=co30) ?_).2.2; exact (by (with_reducible repeat (first | apply Kd.V_alloc | apply Kd.V_drewN | apply Kd.V_drew)); exact (Kd.V_mono (Kd.V_far (p:=⟨gb487,1,none⟩) (Kd.V_far (p:=⟨gb487,0,none⟩) (Kd.V_mono HO483.out (fun k_ hk => (⟨hk,hk.2⟩ : _ ∧ k_ ≠ gb487))) (fun _ hk => hk.2) (.slice Ao30 t481.length co30)) (fun _ hk => hk.2) (.int .i64 t484)) (fun _ h_ => h_.1)))); (case side2 => exact (Kd.V_reads' HO483.out).2.1); rintro e w34 ⟨v489,rfl,ho0,hb⟩; refine ⟨_,rfl,?_⟩; replace HO473 := Aside0.mk (Kd.R_below (by (with_reducible repeat (first | apply Kd.R_alloc | apply Kd.R_drewN | apply Kd.R_drew)); exact (Kd.R_mono (Kd.R_far (p:=⟨gb487,1,none⟩) (Kd.R_far (p:=⟨gb487,0,none⟩) (Kd.R_types HO473.out BK487.out (by decide)) (fun _ hk => hk.2) (.slice Ao30 t481.length co30)) (fun _ hk => hk.2) (.int .i64 t484)) (fun _ h_ => h_.1))) hb); replace HO478 := Aside0.mk (Kd.R_below (by (with_reducible repeat (first | apply Kd.R_alloc | apply Kd.R_drewN | apply Kd.R_drew)); exact (Kd.R_mono (Kd.R_far (p:=⟨gb487,1,none⟩) (Kd.R_far (p:=⟨gb487,0,none⟩) (Kd.R_types HO478.out BK487.out (by decide)) (fun _ hk => hk.2) (.slice Ao30 t481.length co30)) (fun _ hk => hk.2) (.int .i64 t484)) (fun _ h_ => h_.1))) hb); replace HO483 := Aside0.mk (Kd.V_elder' (by (with_reducible repeat (first | apply Kd.V_alloc | apply Kd.V_drewN | apply Kd.V_drew)); exact (Kd.V_mono (Kd.V_far (p:=⟨gb487,1,none⟩) (Kd.V_far (p:=⟨gb487,0,none⟩) (Kd.V_mono HO483.out (fun k_ hk => (⟨hk,hk.2⟩ : _ ∧ k_ ≠ gb487))) (fun _ hk => hk.2) (.slice Ao30 t481.length co30)) (fun _ hk => hk.2) (.int .i64 t484)) (fun _ h_ => h_.1))) (Kd.R_base ho0) hb); have HO490 := Aside0.mk (Kd.R_lower ho0 (below_size bA)); replace BK469 := Aside0.mk (bc BK469.out hb); replace BK470 := Aside0.mk (bc BK470.out hb); replace BK487 := Aside0.mk (blk_below (g:=gb487) (o:=.cells #[.slice Ao30 t481.length co30,.int .i64 t484] 25 (0,0)) (by (with_reducible repeat (first | refine blk_drewN ?_ _ | refine blk_drew ?_ | refine blk_alloc ?_ _)); apply blkp2; (with_reducible repeat (first | refine blk_drewN ?_ _ | refine blk_drew ?_ | refine blk_alloc ?_ _)); exact BK487.out) hb); replace HB := Aside0.mk (below_step bA hb); clear hb; (try clear ho0); obtain ⟨Ao35,co35,eo35⟩ := Kd.R_slice HO490.out; subst eo35; obtain ⟨hcz36_0,hcz36_1⟩ := cl2 BK470.out; obtain ⟨hfz36_0,hfz36_1⟩ := fz2 BK470.out))
   refine bodyPost_ret (results_ctt rfl _ _ gb470 25 #[.slice Ao35 t488.length co35,.int .i64 t491] (0,0) _ rfl (by (with_reducible repeat (first | refine blk_drewN ?_ _ | refine blk_drew ?_ | refine blk_alloc ?_ _)); apply blkp2; (with_reducible repeat (first | refine blk_drewN ?_ _ | refine blk_drew ?_ | refine blk_alloc ?_ _)); exact BK470.out) Try.underlying25 rfl (by kernel_rfl)) rfl ?_
   exact ⟨_,by first | rfl | (simp [errW_none,errW_some] <;> rfl) | (simp [*,errW_none,errW_some] <;> rfl),by (with_reducible repeat (first | apply Kd.R_alloc | apply Kd.R_drewN | apply Kd.R_drew)); exact Kd.R_mono (Kd.R_far (p:=⟨gb470,1,none⟩) (Kd.R_far (p:=⟨gb470,0,none⟩) (Kd.R_types HO490.out BK470.out (by decide)) (fun _ hk => hk.2) (.slice Ao35 t488.length co35)) (fun _ hk => hk.2) (.int .i64 t491)) (fun _ hk => trivial),bA⟩
  ·rw [if_neg c10] at H
   have c10b0 : (t480 == 0) = false := beq_eq_false_iff_ne.mpr c10
   have c10b1 : (t480 != 0) = true := bne_iff_ne.mpr c10
   replace H := Option.bind_eq_some_iff.mp H
   obtain ⟨⟨t492,t495⟩,A370,H⟩ := H
   try dsimp only at H
   have A37 := Aside0.mk A370
   clear A370
   simp only [Option.some.injEq,Prod.mk.injEq] at H
   obtain ⟨rfl,rfl,rfl,rfl⟩ := H
   go_enter Try.func20,Try.ntmps20
   try go_wp2_with (first | ((with_reducible refine gate_dst (N:=4) rfl ?_); refine box_event ?hg (N:=4) ?hd (cs := #[.slice A0_0 l0_0.length c0_0,.int .i64 a0_1]) (t:=25) ?hr ?_; (case hd => rfl); (case hg => rfl); (case hr => first | (go_simp; done) | (go_simp; rfl)); intro gb469 hg w38 hbox hb; have BK469 := Aside0.mk (hbox); have GW469 := Aside0.mk ((gw hg : w.heap.size ≤ gb469)); have GE469 := Aside0.mk ((gw hg : w.heap.size ≤ gb469)); replace HB := Aside0.mk (below_step bA hb); clear hb hbox hg) | ((with_reducible refine gate_dst (N:=8) rfl ?_); refine box_event ?hg (N:=8) ?hd (cs := #[.slice none 0 0,.int .i64 0]) (t:=25) ?hr ?_; (case hd => rfl); (case hg => rfl); (case hr => first | (go_simp; done) | (go_simp; rfl)); intro gb470 hg w39 hbox hb; have BK470 := Aside0.mk (hbox); have GW470 := Aside0.mk ((gw hg : w.heap.size ≤ gb470)); have GE470 := Aside0.mk ((gw hg : w.heap.size ≤ gb470)); replace HB := Aside0.mk (below_step bA hb); have NB469_470 := Aside0.mk ((nl hg BK469.out)); have NB470_469 := Aside0.mk ((ng hg BK469.out)); replace BK469 := Aside0.mk (bb BK469.out hb); clear hb hbox hg))
   replace BK469 := Aside0.mk (blk_drew BK469.out)
   replace BK470 := Aside0.mk (blk_drew BK470.out)
   replace HB := Aside0.mk (below_drew1 HB.out)
   refine start_ (n:=14) (S:=fun w' => w'.cell? ⟨gb469,0,none⟩ = some (.slice A0_0 l0_0.length c0_0) ∧ w'.cell? ⟨gb469,1,none⟩ = some (.int .i64 a0_1)) (ds := []) (bm 14 0) (by kernel_rfl) rfl rfl ⟨bl BK469 0,bl BK469 1⟩ (fun hHeld => ?_); refine with_tabW impl_PutVersion.tab1 impl_PutVersion.bits1 (fun HT_ HW_ => ?_)
   generalize w39.drew = w40 at BK469 BK470 HB hHeld ⊢
   refine pV_ 0 16 (bm 14 1) HT_.out ?_
   refine pV_ 1 17 (bm 14 3) HT_.out ?_
   refine pV_ 5 21 (bm 14 35) HT_.out ?_
   refine pV_ 6 22 (bm 14 99) HT_.out ?_
   refine pV_ 8 24 (bm 14 355) HT_.out ?_
   refine take_ (i:=7) (N:=some 23) (v:=?_) (a':=?_) (bm 14 483) rfl rfl (take_ofW HT_.out HW_.out (by kernel_rfl)) (fun _ _ _ h => h) (Or.inl ⟨by rfl,?_⟩) hHeld ?_ ?_
   rotate_left
   ·rintro w' ⟨s0,s1⟩
    go_simp
    with_reducible rfl
   rotate_left
   ·simp only [Act.put,setIfInBounds_toArray,set_cons_zero,set_cons_succ,i64_w,i32_w]
    rfl
   refine one_ (i:=2) (N:=some 18) (bm 14 487) rfl rfl (one_of HT_.out (by kernel_rfl)) (by decide) (fun K hK => ?_)
   refine Kd.R_lit_step Kd.string _ 9 ?hg (N:=18) ?hd (xs := ([a1,a3] : List ByteArray)) (inner := [.string a1,.string a3]) (ok := fun _ => True) (okp := fun _ => True) ?hr ?hp (fun _ hk => hk) trivial (Below.refl _ _) (Nat.le_refl _) (by simp) ?_; (case hd => rfl); (case hg => rfl); (case hr => first | (go_simp; done) | (go_simp; rfl)); (case hp => exact (Reps.one (show Kd.M Kd.string _ _ _ a1 [.string a1] from rfl) (Reps.one (show Kd.M Kd.string _ _ _ a3 [.string a3] from rfl) (Reps.none _ _))))
   intro v472 w41 ho42 hb hg_ hnew_
   clear hg_ hnew_
   (first | rw [← Ny471.out] at ho42 | (simp only [Int.reduceToNat] at ho42; rw [← Ny471.out] at ho42))
   have HO473 := Aside0.mk (Kd.R_lower ho42 (below_size bA))
   replace BK469 := Aside0.mk (bb BK469.out hb)
   replace BK470 := Aside0.mk (bb BK470.out hb)
   replace HB := Aside0.mk (below_step bA hb)
   clear hb ho42
   obtain ⟨Ao43,co43,eo43⟩ := Kd.R_slice HO473.out
   (first | subst eo43 | (injection eo43 with f1_ f2_ f3_; have f4_ := f1_.symm; have f5_ := f3_.symm; clear f1_ f2_ f3_; subst f4_; subst f5_))
   refine hK.out _ _ ⟨bl BK469 0,bl BK469 1⟩ (fun hHeld => ?_)
   clear hK K
   refine norm_ (a':=?_) ?_ ?_
   rotate_left
   ·show Act.put _ (some 18) _ = _
    simp only [Act.put,setIfInBounds_toArray,set_cons_zero,set_cons_succ,i64_w,i32_w]
    rfl
   refine one_ (i:=3) (N:=some 19) (bm 14 495) rfl rfl (one_of HT_.out (by kernel_rfl)) (by decide) (fun K hK => ?_)
   refine goes_ Try.func24 (by kernel_rfl) rfl #[.slice Ao43 y471.length co43] (by rfl) rfl rfl mA ?_
   with_reducible refine (impl_isLong.calls _ _ y471 t474 _ ?side1 ?side2 A5.out).mono ?_
   (case side1 => repeat (first | exact (Kd.R_reads' HO473.out).2.2 | (with_reducible refine Kd.C_alloc ?_ _) | (with_reducible refine Kd.C_drewN ?_ _) | (with_reducible refine Kd.C_drew ?_)))
   (case side2 => exact (Kd.R_reads' HO473.out).2.1)
   rintro e w44 ⟨rfl,hb⟩
   refine ⟨_,rfl,?_⟩
   replace HO473 := Aside0.mk (Kd.R_below (rA HO473.out) hb)
   replace BK469 := Aside0.mk (bb BK469.out hb)
   replace BK470 := Aside0.mk (bb BK470.out hb)
   replace HB := Aside0.mk (below_step bA hb)
   clear hb
   refine hK.out _ _ ⟨bl BK469 0,bl BK469 1⟩ (fun hHeld => ?_)
   clear hK K
   refine norm_ (a':=?_) ?_ ?_
   rotate_left
   ·show Act.put _ (some 19) _ = _
    simp only [Act.put,setIfInBounds_toArray,set_cons_zero,set_cons_succ,i64_w,i32_w]
    rfl
   refine pV_ 4 20 (bm 14 511) HT_.out ?_
   refine one_ (i:=9) (N:=some 25) (bm 14 1023) rfl rfl (one_of HT_.out (by kernel_rfl)) (by decide) (fun K hK => ?_)
   refine goes_ Try.func34 (by kernel_rfl) rfl #[.agg #[.slice A0_0 l0_0.length c0_0,.int .i64 a0_1],.string a1] (by rfl) rfl rfl mA ?_
   with_reducible refine (impl_storeCode.calls k _ _ l0_0 a0_1 a1 t475 _ ?side1 ?side2 A6.out).mono ?_
   (case side1 => exact sC HR0_0.out)
   (case side2 => exact HC0_0.out)
   rintro e w45 ⟨rfl,hb⟩
   refine ⟨_,rfl,?_⟩
   replace HO473 := Aside0.mk (Kd.R_below (rA HO473.out) hb)
   replace BK469 := Aside0.mk (bb BK469.out hb)
   replace BK470 := Aside0.mk (bb BK470.out hb)
   replace HB := Aside0.mk (below_step bA hb)
   clear hb
   refine hK.out _ _ ⟨bl BK469 0,bl BK469 1⟩ (fun hHeld => ?_)
   clear hK K
   refine norm_ (a':=?_) ?_ ?_
   rotate_left
   ·show Act.put _ (some 25) _ = _
    simp only [Act.put,setIfInBounds_toArray,set_cons_zero,set_cons_succ,i64_w,i32_w]
    rfl
   refine pV_ 10 26 (bm 14 2047) HT_.out ?_
   refine one_ (i:=11) (N:=some 27) (bm 14 4095) rfl rfl (one_of HT_.out (by kernel_rfl)) (by decide) (fun K hK => ?_)
   refine Kd.R_lit_step kAny _ 20 ?hg (N:=27) ?hd (xs := ([anyB t474,anyI 2,anyB true,anyI t475] : List AnyV)) (inner := [.iface 4 (.bool t474),.iface 3 (.int .i64 2),.iface 4 (.bool true),.iface 3 (.int .i64 t475)]) (ok := fun _ => True) (okp := fun _ => True) ?hr ?hp (fun _ hk => hk) trivial (Below.refl _ _) (Nat.le_refl _) (by simp) ?_; (case hd => rfl); (case hg => rfl); (case hr => first | (go_simp; done) | (go_simp; rfl)); (case hp => exact (Reps.one (show Kd.M kAny _ _ _ (anyB t474) [.iface 4 (.bool t474)] from rfl) (Reps.one (show Kd.M kAny _ _ _ (anyI 2) [.iface 3 (.int .i64 2)] from rfl) (Reps.one (show Kd.M kAny _ _ _ (anyB true) [.iface 4 (.bool true)] from rfl) (Reps.one (show Kd.M kAny _ _ _ (anyI t475) [.iface 3 (.int .i64 t475)] from rfl) (Reps.none _ _))))))
   intro v477 w46 ho47 hb hg_ hnew_
   clear hg_ hnew_
   (first | rw [← Ny476.out] at ho47 | (simp only [Int.reduceToNat] at ho47; rw [← Ny476.out] at ho47))
   replace HO473 := Aside0.mk (Kd.R_below (rA HO473.out) hb)
   have HO478 := Aside0.mk (Kd.R_lower ho47 (below_size bA))
   replace BK469 := Aside0.mk (bb BK469.out hb)
   replace BK470 := Aside0.mk (bb BK470.out hb)
   replace HB := Aside0.mk (below_step bA hb)
   clear hb ho47
   obtain ⟨Ao48,co48,eo48⟩ := Kd.R_slice HO478.out
   (first | subst eo48 | (injection eo48 with f1_ f2_ f3_; have f4_ := f1_.symm; have f5_ := f3_.symm; clear f1_ f2_ f3_; subst f4_; subst f5_))
   refine hK.out _ _ ⟨bl BK469 0,bl BK469 1⟩ (fun hHeld => ?_)
   clear hK K
   refine norm_ (a':=?_) ?_ ?_
   rotate_left
   ·show Act.put _ (some 27) _ = _
    simp only [Act.put,setIfInBounds_toArray,set_cons_zero,set_cons_succ,i64_w,i32_w]
    rfl
   refine one_ (i:=12) (N:=some 28) (bm 14 8191) rfl rfl (one_of HT_.out (by kernel_rfl)) (by decide) (fun K hK => ?_)
   refine goes_ Try.func23 (by kernel_rfl) rfl #[.slice Ao48 y476.length co48] (by rfl) rfl rfl mA ?_
   with_reducible refine (impl_first.calls k _ _ y476 t479 _ ?side1 ?side2 A7.out).mono ?_
   (case side1 => repeat (first | exact (Kd.R_reads' HO478.out).2.2 | (with_reducible refine Kd.C_alloc ?_ _) | (with_reducible refine Kd.C_drewN ?_ _) | (with_reducible refine Kd.C_drew ?_)))
   (case side2 => exact (Kd.R_reads' HO478.out).2.1)
   rintro e w' ⟨rfl,⟨nd,rfl⟩⟩
   refine ⟨_,rfl,?_⟩
   refine hK.out _ _ ⟨bl BK469 0,bl BK469 1⟩ (fun hHeld => ?_)
   clear hK K
   refine norm_ (a':=?_) ?_ ?_
   rotate_left
   ·show Act.put _ (some 28) _ = _
    simp only [Act.put,setIfInBounds_toArray,set_cons_zero,set_cons_succ,i64_w,i32_w]
    rfl
   refine pV_ 13 11 (bm 14 16383) HT_.out ?_
   refine done_ (done_of HT_.out (by kernel_rfl)) ?_
   have hnb49 := NB469_470.out
   have hnc49 := NB470_469.out
   obtain ⟨hcz50_0,hcz50_1⟩ := cl2 BK469.out
   obtain ⟨hfz50_0,hfz50_1⟩ := fz2 BK469.out
   try go_wp2_with (first | ((with_reducible refine gate_callee (f:=41) rfl ?_); refine goesL_ (some 36) rfl rfl Try.func41 (by kernel_rfl) rfl #[.agg #[.slice A0_0 l0_0.length c0_0,.int .i64 a0_1],.string a1,.int .i64 a2] rfl mA ?_; (with_reducible refine (impl_Store_versionCode.calls k _ _ l0_0 a0_1 a1 a2 t480 _ ?side1 ?side2 A9.out).mono ?_); (case side1 => exact sD HR0_0.out); (case side2 => exact HC0_0.out); rintro e w51 ⟨rfl,hb⟩; refine ⟨_,rfl,?_⟩; replace HO473 := Aside0.mk (Kd.R_below (rA HO473.out) hb); replace HO478 := Aside0.mk (Kd.R_below (rA HO478.out) hb); replace BK469 := Aside0.mk (bb BK469.out hb); replace BK470 := Aside0.mk (bb BK470.out hb); replace HB := Aside0.mk (below_step bA hb); clear hb; obtain ⟨hcz52_0,hcz52_1⟩ := cl2 BK469.out; obtain ⟨hfz52_0,hfz52_1⟩ := fz2 BK469.out) | ((with_reducible refine gate_callee (f:=36) rfl ?_); refine goesL_ (some 40) rfl rfl Try.func36 (by kernel_rfl) rfl #[.agg #[.slice A0_0 l0_0.length c0_0,.int .i64 a0_1]] rfl mA ?_; (with_reducible refine (impl_Store_copied.calls _ _ l0_0 a0_1 t492 t495 _ ?side1 ?side2 A37.out).mono ?_); (case side1 => exact sC HR0_0.out); (case side2 => exact HC0_0.out); rintro e w53 ⟨v493,rfl,ho0,hb⟩; refine ⟨_,rfl,?_⟩; replace HO473 := Aside0.mk (Kd.R_below (rA HO473.out) hb); replace HO478 := Aside0.mk (Kd.R_below (rA HO478.out) hb); have HO494 := Aside0.mk (Kd.R_lower ho0 (below_size bA)); replace BK469 := Aside0.mk (bb BK469.out hb); replace BK470 := Aside0.mk (bb BK470.out hb); replace HB := Aside0.mk (below_step bA hb); clear hb; (try clear ho0); obtain ⟨Ao54,co54,eo54⟩ := Kd.R_slice HO494.out; subst eo54; obtain ⟨hcz55_0,hcz55_1⟩ := cl2 BK470.out; obtain ⟨hfz55_0,hfz55_1⟩ := fz2 BK470.out))
   refine bodyPost_ret (results_ctt rfl _ _ gb470 25 #[.slice Ao54 t492.length co54,.int .i64 t495] (0,0) _ rfl (by (with_reducible repeat (first | refine blk_drewN ?_ _ | refine blk_drew ?_ | refine blk_alloc ?_ _)); apply blkp2; (with_reducible repeat (first | refine blk_drewN ?_ _ | refine blk_drew ?_ | refine blk_alloc ?_ _)); exact BK470.out) Try.underlying25 rfl (by kernel_rfl)) rfl ?_
   exact ⟨_,by first | rfl | (simp [errW_none,errW_some] <;> rfl) | (simp [*,errW_none,errW_some] <;> rfl),by (with_reducible repeat (first | apply Kd.R_alloc | apply Kd.R_drewN | apply Kd.R_drew)); exact Kd.R_mono (Kd.R_far (p:=⟨gb470,1,none⟩) (Kd.R_far (p:=⟨gb470,0,none⟩) (Kd.R_types HO494.out BK470.out (by decide)) (fun _ hk => hk.2) (.slice Ao54 t492.length co54)) (fun _ hk => hk.2) (.int .i64 t495)) (fun _ hk => trivial),bA⟩
 ·rw [if_neg c8] at H
  have c8b0 : (t479 == 0) = false := beq_eq_false_iff_ne.mpr c8
  have c8b1 : (t479 != 0) = true := bne_iff_ne.mpr c8
  simp only [Option.some.injEq,Prod.mk.injEq] at H
  obtain ⟨rfl,rfl,rfl,rfl⟩ := H
  go_enter Try.func20,Try.ntmps20
  try go_wp2_with (first | ((with_reducible refine gate_dst (N:=4) rfl ?_); refine box_event ?hg (N:=4) ?hd (cs := #[.slice A0_0 l0_0.length c0_0,.int .i64 a0_1]) (t:=25) ?hr ?_; (case hd => rfl); (case hg => rfl); (case hr => first | (go_simp; done) | (go_simp; rfl)); intro gb469 hg w56 hbox hb; have BK469 := Aside0.mk (hbox); have GW469 := Aside0.mk ((gw hg : w.heap.size ≤ gb469)); have GE469 := Aside0.mk ((gw hg : w.heap.size ≤ gb469)); replace HB := Aside0.mk (below_step bA hb); clear hb hbox hg) | ((with_reducible refine gate_dst (N:=8) rfl ?_); refine box_event ?hg (N:=8) ?hd (cs := #[.slice none 0 0,.int .i64 0]) (t:=25) ?hr ?_; (case hd => rfl); (case hg => rfl); (case hr => first | (go_simp; done) | (go_simp; rfl)); intro gb470 hg w57 hbox hb; have BK470 := Aside0.mk (hbox); have GW470 := Aside0.mk ((gw hg : w.heap.size ≤ gb470)); have GE470 := Aside0.mk ((gw hg : w.heap.size ≤ gb470)); replace HB := Aside0.mk (below_step bA hb); have NB469_470 := Aside0.mk ((nl hg BK469.out)); have NB470_469 := Aside0.mk ((ng hg BK469.out)); replace BK469 := Aside0.mk (bb BK469.out hb); clear hb hbox hg))
  replace BK469 := Aside0.mk (blk_drew BK469.out)
  replace BK470 := Aside0.mk (blk_drew BK470.out)
  replace HB := Aside0.mk (below_drew1 HB.out)
  refine start_ (n:=14) (S:=fun w' => w'.cell? ⟨gb469,0,none⟩ = some (.slice A0_0 l0_0.length c0_0) ∧ w'.cell? ⟨gb469,1,none⟩ = some (.int .i64 a0_1)) (ds := []) (bm 14 0) (by kernel_rfl) rfl rfl ⟨bl BK469 0,bl BK469 1⟩ (fun hHeld => ?_); refine with_tabW impl_PutVersion.tab1 impl_PutVersion.bits1 (fun HT_ HW_ => ?_)
  generalize w57.drew = w58 at BK469 BK470 HB hHeld ⊢
  refine pV_ 0 16 (bm 14 1) HT_.out ?_
  refine pV_ 1 17 (bm 14 3) HT_.out ?_
  refine pV_ 5 21 (bm 14 35) HT_.out ?_
  refine pV_ 6 22 (bm 14 99) HT_.out ?_
  refine pV_ 8 24 (bm 14 355) HT_.out ?_
  refine take_ (i:=7) (N:=some 23) (v:=?_) (a':=?_) (bm 14 483) rfl rfl (take_ofW HT_.out HW_.out (by kernel_rfl)) (fun _ _ _ h => h) (Or.inl ⟨by rfl,?_⟩) hHeld ?_ ?_
  rotate_left
  ·rintro w' ⟨s0,s1⟩
   go_simp
   with_reducible rfl
  rotate_left
  ·simp only [Act.put,setIfInBounds_toArray,set_cons_zero,set_cons_succ,i64_w,i32_w]
   rfl
  refine one_ (i:=2) (N:=some 18) (bm 14 487) rfl rfl (one_of HT_.out (by kernel_rfl)) (by decide) (fun K hK => ?_)
  refine Kd.R_lit_step Kd.string _ 9 ?hg (N:=18) ?hd (xs := ([a1,a3] : List ByteArray)) (inner := [.string a1,.string a3]) (ok := fun _ => True) (okp := fun _ => True) ?hr ?hp (fun _ hk => hk) trivial (Below.refl _ _) (Nat.le_refl _) (by simp) ?_; (case hd => rfl); (case hg => rfl); (case hr => first | (go_simp; done) | (go_simp; rfl)); (case hp => exact (Reps.one (show Kd.M Kd.string _ _ _ a1 [.string a1] from rfl) (Reps.one (show Kd.M Kd.string _ _ _ a3 [.string a3] from rfl) (Reps.none _ _))))
  intro v472 w59 ho60 hb hg_ hnew_
  clear hg_ hnew_
  (first | rw [← Ny471.out] at ho60 | (simp only [Int.reduceToNat] at ho60; rw [← Ny471.out] at ho60))
  have HO473 := Aside0.mk (Kd.R_lower ho60 (below_size bA))
  replace BK469 := Aside0.mk (bb BK469.out hb)
  replace BK470 := Aside0.mk (bb BK470.out hb)
  replace HB := Aside0.mk (below_step bA hb)
  clear hb ho60
  obtain ⟨Ao61,co61,eo61⟩ := Kd.R_slice HO473.out
  (first | subst eo61 | (injection eo61 with f1_ f2_ f3_; have f4_ := f1_.symm; have f5_ := f3_.symm; clear f1_ f2_ f3_; subst f4_; subst f5_))
  refine hK.out _ _ ⟨bl BK469 0,bl BK469 1⟩ (fun hHeld => ?_)
  clear hK K
  refine norm_ (a':=?_) ?_ ?_
  rotate_left
  ·show Act.put _ (some 18) _ = _
   simp only [Act.put,setIfInBounds_toArray,set_cons_zero,set_cons_succ,i64_w,i32_w]
   rfl
  refine one_ (i:=3) (N:=some 19) (bm 14 495) rfl rfl (one_of HT_.out (by kernel_rfl)) (by decide) (fun K hK => ?_)
  refine goes_ Try.func24 (by kernel_rfl) rfl #[.slice Ao61 y471.length co61] (by rfl) rfl rfl mA ?_
  with_reducible refine (impl_isLong.calls _ _ y471 t474 _ ?side1 ?side2 A5.out).mono ?_
  (case side1 => repeat (first | exact (Kd.R_reads' HO473.out).2.2 | (with_reducible refine Kd.C_alloc ?_ _) | (with_reducible refine Kd.C_drewN ?_ _) | (with_reducible refine Kd.C_drew ?_)))
  (case side2 => exact (Kd.R_reads' HO473.out).2.1)
  rintro e w62 ⟨rfl,hb⟩
  refine ⟨_,rfl,?_⟩
  replace HO473 := Aside0.mk (Kd.R_below (rA HO473.out) hb)
  replace BK469 := Aside0.mk (bb BK469.out hb)
  replace BK470 := Aside0.mk (bb BK470.out hb)
  replace HB := Aside0.mk (below_step bA hb)
  clear hb
  refine hK.out _ _ ⟨bl BK469 0,bl BK469 1⟩ (fun hHeld => ?_)
  clear hK K
  refine norm_ (a':=?_) ?_ ?_
  rotate_left
  ·show Act.put _ (some 19) _ = _
   simp only [Act.put,setIfInBounds_toArray,set_cons_zero,set_cons_succ,i64_w,i32_w]
   rfl
  refine pV_ 4 20 (bm 14 511) HT_.out ?_
  refine one_ (i:=9) (N:=some 25) (bm 14 1023) rfl rfl (one_of HT_.out (by kernel_rfl)) (by decide) (fun K hK => ?_)
  refine goes_ Try.func34 (by kernel_rfl) rfl #[.agg #[.slice A0_0 l0_0.length c0_0,.int .i64 a0_1],.string a1] (by rfl) rfl rfl mA ?_
  with_reducible refine (impl_storeCode.calls k _ _ l0_0 a0_1 a1 t475 _ ?side1 ?side2 A6.out).mono ?_
  (case side1 => exact sC HR0_0.out)
  (case side2 => exact HC0_0.out)
  rintro e w63 ⟨rfl,hb⟩
  refine ⟨_,rfl,?_⟩
  replace HO473 := Aside0.mk (Kd.R_below (rA HO473.out) hb)
  replace BK469 := Aside0.mk (bb BK469.out hb)
  replace BK470 := Aside0.mk (bb BK470.out hb)
  replace HB := Aside0.mk (below_step bA hb)
  clear hb
  refine hK.out _ _ ⟨bl BK469 0,bl BK469 1⟩ (fun hHeld => ?_)
  clear hK K
  refine norm_ (a':=?_) ?_ ?_
  rotate_left
  ·show Act.put _ (some 25) _ = _
   simp only [Act.put,setIfInBounds_toArray,set_cons_zero,set_cons_succ,i64_w,i32_w]
   rfl
  refine pV_ 10 26 (bm 14 2047) HT_.out ?_
  refine one_ (i:=11) (N:=some 27) (bm 14 4095) rfl rfl (one_of HT_.out (by kernel_rfl)) (by decide) (fun K hK => ?_)
  refine Kd.R_lit_step kAny _ 20 ?hg (N:=27) ?hd (xs := ([anyB t474,anyI 2,anyB true,anyI t475] : List AnyV)) (inner := [.iface 4 (.bool t474),.iface 3 (.int .i64 2),.iface 4 (.bool true),.iface 3 (.int .i64 t475)]) (ok := fun _ => True) (okp := fun _ => True) ?hr ?hp (fun _ hk => hk) trivial (Below.refl _ _) (Nat.le_refl _) (by simp) ?_; (case hd => rfl); (case hg => rfl); (case hr => first | (go_simp; done) | (go_simp; rfl)); (case hp => exact (Reps.one (show Kd.M kAny _ _ _ (anyB t474) [.iface 4 (.bool t474)] from rfl) (Reps.one (show Kd.M kAny _ _ _ (anyI 2) [.iface 3 (.int .i64 2)] from rfl) (Reps.one (show Kd.M kAny _ _ _ (anyB true) [.iface 4 (.bool true)] from rfl) (Reps.one (show Kd.M kAny _ _ _ (anyI t475) [.iface 3 (.int .i64 t475)] from rfl) (Reps.none _ _))))))
  intro v477 w64 ho65 hb hg_ hnew_
  clear hg_ hnew_
  (first | rw [← Ny476.out] at ho65 | (simp only [Int.reduceToNat] at ho65; rw [← Ny476.out] at ho65))
  replace HO473 := Aside0.mk (Kd.R_below (rA HO473.out) hb)
  have HO478 := Aside0.mk (Kd.R_lower ho65 (below_size bA))
  replace BK469 := Aside0.mk (bb BK469.out hb)
  replace BK470 := Aside0.mk (bb BK470.out hb)
  replace HB := Aside0.mk (below_step bA hb)
  clear hb ho65
  obtain ⟨Ao66,co66,eo66⟩ := Kd.R_slice HO478.out
  (first | subst eo66 | (injection eo66 with f1_ f2_ f3_; have f4_ := f1_.symm; have f5_ := f3_.symm; clear f1_ f2_ f3_; subst f4_; subst f5_))
  refine hK.out _ _ ⟨bl BK469 0,bl BK469 1⟩ (fun hHeld => ?_)
  clear hK K
  refine norm_ (a':=?_) ?_ ?_
  rotate_left
  ·show Act.put _ (some 27) _ = _
   simp only [Act.put,setIfInBounds_toArray,set_cons_zero,set_cons_succ,i64_w,i32_w]
   rfl
  refine one_ (i:=12) (N:=some 28) (bm 14 8191) rfl rfl (one_of HT_.out (by kernel_rfl)) (by decide) (fun K hK => ?_)
  refine goes_ Try.func23 (by kernel_rfl) rfl #[.slice Ao66 y476.length co66] (by rfl) rfl rfl mA ?_
  with_reducible refine (impl_first.calls k _ _ y476 t479 _ ?side1 ?side2 A7.out).mono ?_
  (case side1 => repeat (first | exact (Kd.R_reads' HO478.out).2.2 | (with_reducible refine Kd.C_alloc ?_ _) | (with_reducible refine Kd.C_drewN ?_ _) | (with_reducible refine Kd.C_drew ?_)))
  (case side2 => exact (Kd.R_reads' HO478.out).2.1)
  rintro e w' ⟨rfl,⟨nd,rfl⟩⟩
  refine ⟨_,rfl,?_⟩
  refine hK.out _ _ ⟨bl BK469 0,bl BK469 1⟩ (fun hHeld => ?_)
  clear hK K
  refine norm_ (a':=?_) ?_ ?_
  rotate_left
  ·show Act.put _ (some 28) _ = _
   simp only [Act.put,setIfInBounds_toArray,set_cons_zero,set_cons_succ,i64_w,i32_w]
   rfl
  refine pV_ 13 11 (bm 14 16383) HT_.out ?_
  refine done_ (done_of HT_.out (by kernel_rfl)) ?_
  have hnb67 := NB470_469.out
  have hnc67 := NB469_470.out
  obtain ⟨hcz68_0,hcz68_1⟩ := cl2 BK470.out
  obtain ⟨hfz68_0,hfz68_1⟩ := fz2 BK470.out
  try go_wp2
  refine bodyPost_ret (results_ctt rfl _ _ gb470 25 #[.slice none 0 0,.int .i64 0] (0,0) _ rfl (by (with_reducible repeat (first | refine blk_drewN ?_ _ | refine blk_drew ?_ | refine blk_alloc ?_ _)); apply blkp2; (with_reducible repeat (first | refine blk_drewN ?_ _ | refine blk_drew ?_ | refine blk_alloc ?_ _)); exact BK470.out) Try.underlying25 rfl (by kernel_rfl)) rfl ?_
  exact ⟨_,by first | rfl | (simp [errW_none,errW_some] <;> rfl) | (simp [*,errW_none,errW_some] <;> rfl),by first | exact Kd.R_nil _ _ _ _ _ | exact Kd.N_nil _ _ _ _ _ | exact Kd.V_nil _ _ _ _ _ | exact Kd.Q_nil _ _ _ _ _ | exact Kd.S_nil _ _ _ _ _,bA⟩

end Go.Proofs.Ytgkfemnfbkgeiaa.XFnCas
