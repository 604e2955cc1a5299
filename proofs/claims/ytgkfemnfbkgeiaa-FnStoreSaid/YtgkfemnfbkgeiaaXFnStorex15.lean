-- Printed by this session's own program wip/tools/xprint.py, which widens the kit's print. Not trusted: Lean checks it.
import Derived.Test.YtgkfemnfbkgeiaaXFnStorex0
import Derived.Test.YtgkfemnfbkgeiaaXFnStorex6
import Derived.Test.YtgkfemnfbkgeiaaXFnStorex8
import Derived.Test.YtgkfemnfbkgeiaaXFnStorex14
namespace Go.Proofs.Ytgkfemnfbkgeiaa.XFnStore
open List (setIfInBounds_toArray set_cons_zero set_cons_succ)
open Go.RowKit Go.Proofs.YtgkfemnfbkgeiaaW.PrintWords Go.Proofs.YtgkfemnfbkgeiaaW.PrintLast Go.Proofs.YtgkfemnfbkgeiaaW.PrintMore
attribute [local go_sem] max2_int min2_int max_two min_two max_three min_three max_four min_four   -- for this text's walks alone
set_option linter.unusedVariables false
set_option linter.unusedSimpArgs false

/-! ### impl_DeleteVersion: function 15 -/
def impl_DeleteVersion.f (k : Nat) (l0_0 : List (S32)) (a0_1 : Int) (a1 : ByteArray) (a2 : Int) : Option ((List (S32)) × Int × Int) := (impl_isLong.f (([a1] : List ByteArray))).bind fun t482 => ((impl_storeCode.f k l0_0 a0_1 a1).bind fun t483 => ((impl_first.f k (([anyB t482,anyI 2,anyB true,anyI t483] : List AnyV))).bind fun t487 => (if t487 = 0 then ((impl_Store_versionCode.f k l0_0 a0_1 a1 a2).bind fun t488 => (if t488 = 0 then ((impl_Store_without.f l0_0 a0_1 a1).bind fun bt489 => (some (bt489.1,bt489.2,0))) else ((impl_Store_copied.f l0_0 a0_1).bind fun bt493 => (some (bt493.1,bt493.2,t488))))) else (some (([] : List (S32)),0,t487)))))
theorem impl_DeleteVersion.mono : ∀ a0 a1 a2 a3 k,LeO (impl_DeleteVersion.f k a0 a1 a2 a3) (impl_DeleteVersion.f (k + 1) a0 a1 a2 a3) := by
 intro a0 a1 a2 a3 k
 unfold impl_DeleteVersion.f
 repeat' first
 | (with_reducible first | exact impl_Store_versionCode.mono .. | exact impl_first.mono .. | exact impl_storeCode.mono .. | exact LeO.refl _ | exact LeO.none _ | refine LeO.ite ?_ ?_ | refine LeO.bind ?_ (fun _ => ?_))
 | exact LeO.none _ | refine LeO.ite ?_ ?_ | refine LeO.bind ?_ (fun _ => ?_)
def impl_DeleteVersion.T1 : Bool × List (List Nat × List Nat) := (true,[([],[]),([0],[0]),([1],[1]),([2],[2]),([],[]),([],[]),([],[]),([],[]),([6,7,2],[6,7]),([8],[8]),([3,4,5,9],[3,4,5,9]),([10,8],[10]),([11,11,0,1,2,3,4,5,6,7,8,9,10,11],[11])])
def impl_DeleteVersion.B1 : List Nat := [0,1,3,7,0,0,0,0,199,455,1023,2047,4095]
theorem impl_DeleteVersion.tab1 : rtab .any (opsOf Try.f15 1) = impl_DeleteVersion.T1 := by kernel_rfl
theorem impl_DeleteVersion.bits1 : waitsOk impl_DeleteVersion.T1.2 impl_DeleteVersion.B1 = true := by kernel_rfl
set_option maxHeartbeats 8000000 in
set_option maxRecDepth 100000 in
theorem impl_DeleteVersion.calls (k : Nat) (A0_0 : Option Addr) (c0_0 : Nat) (l0_0 : List (S32)) (a0_1 : Int) (a1 : ByteArray) (a2 : Int) (r1 : List (S32)) (r2 : Int) (r3 : Int) (w : World) (hr0_0 : Kd.C k32 w A0_0 l0_0.length l0_0) (hc0_0 : l0_0.length ≤ c0_0) (h : impl_DeleteVersion.f k l0_0 a0_1 a1 a2 = some (r1,r2,r3)) :
  Calls Try.prog 15 #[.agg #[.slice A0_0 l0_0.length c0_0,.int .i64 a0_1],.string a1,.int .i64 a2] w fun e w' => ∃ v0_ : Value,e = .returned (.tuple #[.agg #[v0_,.int .i64 r2],.int .i64 r3]) ∧ Kd.R k32 32 w' w.heap.size (fun _ => True) v0_ r1 ∧ Below w.heap.size w w' := by
 have hu25 := Try.underlying25
 have hua20 := Try.underlying20
 have HR0_0 := Aside0.mk hr0_0
 have HC0_0 := Aside0.mk hc0_0
 clear hr0_0 hc0_0
 have HB := Aside0.mk (Below.refl w.heap.size w)
 have H : ((impl_isLong.f (([a1] : List ByteArray))).bind fun t482 => ((impl_storeCode.f k l0_0 a0_1 a1).bind fun t483 => ((impl_first.f k (([anyB t482,anyI 2,anyB true,anyI t483] : List AnyV))).bind fun t487 => (if t487 = 0 then ((impl_Store_versionCode.f k l0_0 a0_1 a1 a2).bind fun t488 => (if t488 = 0 then ((impl_Store_without.f l0_0 a0_1 a1).bind fun bt489 => (some (bt489.1,bt489.2,0))) else ((impl_Store_copied.f l0_0 a0_1).bind fun bt493 => (some (bt493.1,bt493.2,t488))))) else (some (([] : List (S32)),0,t487)))))) = some (r1,r2,r3) := h
 clear h
 obtain ⟨y479,hy479⟩ : ∃ y_ : List ByteArray,y_ = (([a1] : List ByteArray)) := ⟨_,rfl⟩
 replace H : ((impl_isLong.f y479).bind fun t482 => ((impl_storeCode.f k l0_0 a0_1 a1).bind fun t483 => ((impl_first.f k (([anyB t482,anyI 2,anyB true,anyI t483] : List AnyV))).bind fun t487 => (if t487 = 0 then ((impl_Store_versionCode.f k l0_0 a0_1 a1 a2).bind fun t488 => (if t488 = 0 then ((impl_Store_without.f l0_0 a0_1 a1).bind fun bt489 => (some (bt489.1,bt489.2,0))) else ((impl_Store_copied.f l0_0 a0_1).bind fun bt493 => (some (bt493.1,bt493.2,t488))))) else (some (([] : List (S32)),0,t487)))))) = some (r1,r2,r3) := by first | (rw [hy479]; with_reducible exact H) | (have H2_ := (Option.bind_some _ _).symm.trans H; rw [hy479]; with_reducible exact H2_) | (have H2_ := (Option.bind_some _ _).symm.trans H; with_reducible exact H2_) | with_reducible exact H | (rw [hy479]; exact H) | exact H
 have Ny479 := Aside0.mk hy479
 clear hy479
 replace H := Option.bind_eq_some_iff.mp H
 obtain ⟨t482,A40,H⟩ := H
 try dsimp only at H
 have A4 := Aside0.mk A40
 clear A40
 replace H := Option.bind_eq_some_iff.mp H
 obtain ⟨t483,A50,H⟩ := H
 try dsimp only at H
 have A5 := Aside0.mk A50
 clear A50
 obtain ⟨y484,hy484⟩ : ∃ y_ : List AnyV,y_ = (([anyB t482,anyI 2,anyB true,anyI t483] : List AnyV)) := ⟨_,rfl⟩
 replace H : ((impl_first.f k y484).bind fun t487 => (if t487 = 0 then ((impl_Store_versionCode.f k l0_0 a0_1 a1 a2).bind fun t488 => (if t488 = 0 then ((impl_Store_without.f l0_0 a0_1 a1).bind fun bt489 => (some (bt489.1,bt489.2,0))) else ((impl_Store_copied.f l0_0 a0_1).bind fun bt493 => (some (bt493.1,bt493.2,t488))))) else (some (([] : List (S32)),0,t487)))) = some (r1,r2,r3) := by first | (rw [hy484]; with_reducible exact H) | (have H2_ := (Option.bind_some _ _).symm.trans H; rw [hy484]; with_reducible exact H2_) | (have H2_ := (Option.bind_some _ _).symm.trans H; with_reducible exact H2_) | with_reducible exact H | (rw [hy484]; exact H) | exact H
 have Ny484 := Aside0.mk hy484
 clear hy484
 replace H := Option.bind_eq_some_iff.mp H
 obtain ⟨t487,A60,H⟩ := H
 try dsimp only at H
 have A6 := Aside0.mk A60
 clear A60
 by_cases c7 : t487 = 0
 ·rw [if_pos c7] at H
  have c7b0 : (t487 == 0) = true := beq_iff_eq.mpr c7
  have c7b1 : (t487 != 0) = false := bne_eq_false_iff_eq.mpr c7
  clear c7
  replace H := Option.bind_eq_some_iff.mp H
  obtain ⟨t488,A80,H⟩ := H
  try dsimp only at H
  have A8 := Aside0.mk A80
  clear A80
  by_cases c9 : t488 = 0
  ·rw [if_pos c9] at H
   have c9b0 : (t488 == 0) = true := beq_iff_eq.mpr c9
   have c9b1 : (t488 != 0) = false := bne_eq_false_iff_eq.mpr c9
   clear c9
   replace H := Option.bind_eq_some_iff.mp H
   obtain ⟨⟨t489,t492⟩,A100,H⟩ := H
   try dsimp only at H
   have A10 := Aside0.mk A100
   clear A100
   simp only [Option.some.injEq,Prod.mk.injEq] at H
   obtain ⟨rfl,rfl,rfl⟩ := H
   go_enter Try.func15,Try.ntmps15
   try go_wp2_with (first | ((with_reducible refine gate_dst (N:=3) rfl ?_); refine bxe (N:=3) (cs := #[.slice A0_0 l0_0.length c0_0,.int .i64 a0_1]) (t:=25) ?_; intro gb477 hg w11 hbox hb; have BK477 := Aside0.mk (hbox); have GW477 := Aside0.mk ((gw hg : w.heap.size ≤ gb477)); have GE477 := GW477; replace HB := bsA hb; clear hb hbox hg) | ((with_reducible refine gate_dst (N:=6) rfl ?_); refine bxe (N:=6) (cs := #[.slice none 0 0,.int .i64 0]) (t:=25) ?_; intro gb478 hg w12 hbox hb; have BK478 := Aside0.mk (hbox); have GW478 := Aside0.mk ((gw hg : w.heap.size ≤ gb478)); have GE478 := GW478; replace HB := bsA hb; have NB477_478 := Aside0.mk ((nl hg BK477.out)); have NB478_477 := Aside0.mk ((ng hg BK477.out)); replace BK477 := bbA BK477 hb; clear hb hbox hg))
   replace BK477 := Aside0.mk (blk_drew BK477.out)
   replace BK478 := Aside0.mk (blk_drew BK478.out)
   replace HB := Aside0.mk (below_drew1 HB.out)
   refine start_ (n:=13) (S:=fun w' => w'.cell? ⟨gb477,0,none⟩ = some (.slice A0_0 l0_0.length c0_0) ∧ w'.cell? ⟨gb477,1,none⟩ = some (.int .i64 a0_1)) (ds := []) (bm 13 0) (by kernel_rfl) rfl rfl ⟨bl BK477 0,bl BK477 1⟩ (fun hHeld => ?_); refine with_tabW impl_DeleteVersion.tab1 impl_DeleteVersion.bits1 (fun HT_ HW_ => ?_)
   generalize w12.drew = w13 at BK477 BK478 HB hHeld ⊢
   refine pV_ 0 10 (bm 13 1) HT_.out ?_
   refine pV_ 4 14 (bm 13 17) HT_.out ?_
   refine pV_ 5 15 (bm 13 49) HT_.out ?_
   refine pV_ 7 17 (bm 13 177) HT_.out ?_
   refine tk 6 16 (bm 13 241) HT_.out HW_.out hHeld ?_
   refine one_ (i:=1) (N:=some 11) (bm 13 243) rfl rfl (one_of HT_.out (by kernel_rfl)) (by decide) (fun K hK => ?_)
   refine Kd.R_lit_step Kd.string _ 9 ?hg (N:=11) ?hd (xs := ([a1] : List ByteArray)) (inner := [.string a1]) (ok := fun _ => True) (okp := fun _ => True) ?hr ?hp (fun _ hk => hk) trivial (Below.refl _ _) (Nat.le_refl _) (by simp) ?_; (case hd => rfl); (case hg => rfl); (case hr => first | (go_simp; done) | (go_simp; rfl)); (case hp => exact (Reps.one (show Kd.M Kd.string _ _ _ a1 [.string a1] from rfl) (Reps.none _ _)))
   intro v480 w14 ho15 hb hg_ hnew_
   clear hg_ hnew_
   (first | rw [← Ny479.out] at ho15 | (simp only [Int.reduceToNat] at ho15; rw [← Ny479.out] at ho15))
   have HO481 := Aside0.mk (Kd.R_lower ho15 (below_size bA))
   replace BK477 := bbA BK477 hb
   replace BK478 := bbA BK478 hb
   replace HB := bsA hb
   clear hb ho15
   obtain ⟨Ao16,co16,eo16⟩ := Kd.R_slice HO481.out
   (first | subst eo16 | (injection eo16 with f1_ f2_ f3_; have f4_ := f1_.symm; have f5_ := f3_.symm; clear f1_ f2_ f3_; subst f4_; subst f5_))
   refine hK.out _ _ ⟨bl BK477 0,bl BK477 1⟩ (fun hHeld => ?_)
   clear hK K
   refine nw 11 ?_
   refine one_ (i:=2) (N:=some 12) (bm 13 247) rfl rfl (one_of HT_.out (by kernel_rfl)) (by decide) (fun K hK => ?_)
   refine goes_ Try.func24 (by kernel_rfl) rfl #[.slice Ao16 y479.length co16] (by rfl) rfl rfl mA ?_
   with_reducible refine (impl_isLong.calls _ _ y479 t482 _ ?side1 ?side2 A4.out).mono ?_
   (case side1 => repeat (first | exact (Kd.R_reads' HO481.out).2.2 | (with_reducible refine Kd.C_alloc ?_ _) | (with_reducible refine Kd.C_drewN ?_ _) | (with_reducible refine Kd.C_drew ?_)))
   (case side2 => exact (Kd.R_reads' HO481.out).2.1)
   rintro e w17 ⟨rfl,hb⟩
   refine ⟨_,rfl,?_⟩
   replace HO481 := Aside0.mk (Kd.R_below (rA HO481.out) hb)
   replace BK477 := bbA BK477 hb
   replace BK478 := bbA BK478 hb
   replace HB := bsA hb
   clear hb
   refine hK.out _ _ ⟨bl BK477 0,bl BK477 1⟩ (fun hHeld => ?_)
   clear hK K
   refine nw 12 ?_
   refine pV_ 3 13 (bm 13 255) HT_.out ?_
   refine one_ (i:=8) (N:=some 18) (bm 13 511) rfl rfl (one_of HT_.out (by kernel_rfl)) (by decide) (fun K hK => ?_)
   refine goes_ Try.func34 (by kernel_rfl) rfl #[.agg #[.slice A0_0 l0_0.length c0_0,.int .i64 a0_1],.string a1] (by rfl) rfl rfl mA ?_
   with_reducible refine (impl_storeCode.calls k _ _ l0_0 a0_1 a1 t483 _ ?side1 ?side2 A5.out).mono ?_
   (case side1 => exact sC HR0_0.out)
   (case side2 => exact HC0_0.out)
   rintro e w18 ⟨rfl,hb⟩
   refine ⟨_,rfl,?_⟩
   replace HO481 := Aside0.mk (Kd.R_below (rA HO481.out) hb)
   replace BK477 := bbA BK477 hb
   replace BK478 := bbA BK478 hb
   replace HB := bsA hb
   clear hb
   refine hK.out _ _ ⟨bl BK477 0,bl BK477 1⟩ (fun hHeld => ?_)
   clear hK K
   refine nw 18 ?_
   refine pV_ 9 19 (bm 13 1023) HT_.out ?_
   refine one_ (i:=10) (N:=some 20) (bm 13 2047) rfl rfl (one_of HT_.out (by kernel_rfl)) (by decide) (fun K hK => ?_)
   refine Kd.R_lit_step kAny _ 20 ?hg (N:=20) ?hd (xs := ([anyB t482,anyI 2,anyB true,anyI t483] : List AnyV)) (inner := [.iface 4 (.bool t482),.iface 3 (.int .i64 2),.iface 4 (.bool true),.iface 3 (.int .i64 t483)]) (ok := fun _ => True) (okp := fun _ => True) ?hr ?hp (fun _ hk => hk) trivial (Below.refl _ _) (Nat.le_refl _) (by simp) ?_; (case hd => rfl); (case hg => rfl); (case hr => first | (go_simp; done) | (go_simp; rfl)); (case hp => exact (Reps.one (show Kd.M kAny _ _ _ (anyB t482) [.iface 4 (.bool t482)] from rfl) (Reps.one (show Kd.M kAny _ _ _ (anyI 2) [.iface 3 (.int .i64 2)] from rfl) (Reps.one (show Kd.M kAny _ _ _ (anyB true) [.iface 4 (.bool true)] from rfl) (Reps.one (show Kd.M kAny _ _ _ (anyI t483) [.iface 3 (.int .i64 t483)] from rfl) (Reps.none _ _))))))
   intro v485 w19 ho20 hb hg_ hnew_
   clear hg_ hnew_
   (first | rw [← Ny484.out] at ho20 | (simp only [Int.reduceToNat] at ho20; rw [← Ny484.out] at ho20))
   replace HO481 := Aside0.mk (Kd.R_below (rA HO481.out) hb)
   have HO486 := Aside0.mk (Kd.R_lower ho20 (below_size bA))
   replace BK477 := bbA BK477 hb
   replace BK478 := bbA BK478 hb
   replace HB := bsA hb
   clear hb ho20
   obtain ⟨Ao21,co21,eo21⟩ := Kd.R_slice HO486.out
   (first | subst eo21 | (injection eo21 with f1_ f2_ f3_; have f4_ := f1_.symm; have f5_ := f3_.symm; clear f1_ f2_ f3_; subst f4_; subst f5_))
   refine hK.out _ _ ⟨bl BK477 0,bl BK477 1⟩ (fun hHeld => ?_)
   clear hK K
   refine nw 20 ?_
   refine one_ (i:=11) (N:=some 21) (bm 13 4095) rfl rfl (one_of HT_.out (by kernel_rfl)) (by decide) (fun K hK => ?_)
   refine goes_ Try.func23 (by kernel_rfl) rfl #[.slice Ao21 y484.length co21] (by rfl) rfl rfl mA ?_
   with_reducible refine (impl_first.calls k _ _ y484 t487 _ ?side1 ?side2 A6.out).mono ?_
   (case side1 => repeat (first | exact (Kd.R_reads' HO486.out).2.2 | (with_reducible refine Kd.C_alloc ?_ _) | (with_reducible refine Kd.C_drewN ?_ _) | (with_reducible refine Kd.C_drew ?_)))
   (case side2 => exact (Kd.R_reads' HO486.out).2.1)
   rintro e w' ⟨rfl,⟨nd,rfl⟩⟩
   refine ⟨_,rfl,?_⟩
   refine hK.out _ _ ⟨bl BK477 0,bl BK477 1⟩ (fun hHeld => ?_)
   clear hK K
   refine nw 21 ?_
   refine pV_ 12 8 (bm 13 8191) HT_.out ?_
   refine done_ (done_of HT_.out (by kernel_rfl)) ?_
   have hnb22 := NB477_478.out
   have hnc22 := NB478_477.out
   obtain ⟨hcz23_0,hcz23_1⟩ := cl2 BK477.out
   obtain ⟨hfz23_0,hfz23_1⟩ := fz2 BK477.out
   try go_wp2_with (first | ((with_reducible refine gate_callee (f:=41) rfl ?_); refine goesL_ (some 29) rfl rfl Try.func41 (by kernel_rfl) rfl #[.agg #[.slice A0_0 l0_0.length c0_0,.int .i64 a0_1],.string a1,.int .i64 a2] rfl mA ?_; (with_reducible refine (impl_Store_versionCode.calls k _ _ l0_0 a0_1 a1 a2 t488 _ ?side1 ?side2 A8.out).mono ?_); (case side1 => exact sD HR0_0.out); (case side2 => exact HC0_0.out); rintro e w24 ⟨rfl,hb⟩; refine ⟨_,rfl,?_⟩; replace HO481 := Aside0.mk (Kd.R_below (rA HO481.out) hb); replace HO486 := Aside0.mk (Kd.R_below (rA HO486.out) hb); replace BK477 := bbA BK477 hb; replace BK478 := bbA BK478 hb; replace HB := bsA hb; clear hb; obtain ⟨hcz25_0,hcz25_1⟩ := cl2 BK477.out; obtain ⟨hfz25_0,hfz25_1⟩ := fz2 BK477.out) | ((with_reducible refine gate_callee (f:=42) rfl ?_); refine goesL_ (some 37) rfl rfl Try.func42 (by kernel_rfl) rfl #[.agg #[.slice A0_0 l0_0.length c0_0,.int .i64 a0_1],.string a1] rfl mA ?_; (with_reducible refine (impl_Store_without.calls _ _ l0_0 a0_1 a1 t489 t492 _ ?side1 ?side2 A10.out).mono ?_); (case side1 => exact sC HR0_0.out); (case side2 => exact HC0_0.out); rintro e w26 ⟨v490,rfl,ho0,hb⟩; refine ⟨_,rfl,?_⟩; replace HO481 := Aside0.mk (Kd.R_below (rA HO481.out) hb); replace HO486 := Aside0.mk (Kd.R_below (rA HO486.out) hb); have HO491 := Aside0.mk (Kd.R_lower ho0 (below_size bA)); replace BK477 := bbA BK477 hb; replace BK478 := bbA BK478 hb; replace HB := bsA hb; clear hb; (try clear ho0); obtain ⟨Ao27,co27,eo27⟩ := Kd.R_slice HO491.out; subst eo27; obtain ⟨hcz28_0,hcz28_1⟩ := cl2 BK478.out; obtain ⟨hfz28_0,hfz28_1⟩ := fz2 BK478.out))
   refine bodyPost_ret (results_ct rfl _ _ gb478 25 #[.slice Ao27 t489.length co27,.int .i64 t492] (0,0) _ rfl (kP2 BK478.out) Try.underlying25 rfl (by kernel_rfl)) rfl ?_
   exact ⟨_,by first | rfl | (simp [errW_none,errW_some] <;> rfl) | (simp [*,errW_none,errW_some] <;> rfl),by (with_reducible repeat (first | apply Kd.R_alloc | apply Kd.R_drewN | apply Kd.R_drew)); exact Kd.R_mono (Kd.R_far (p:=⟨gb478,1,none⟩) (Kd.R_far (p:=⟨gb478,0,none⟩) (Kd.R_types HO491.out BK478.out (by decide)) (fun _ hk => hk.2) (.slice Ao27 t489.length co27)) (fun _ hk => hk.2) (.int .i64 t492)) (fun _ hk => trivial),bA⟩
  ·rw [if_neg c9] at H
   have c9b0 : (t488 == 0) = false := beq_eq_false_iff_ne.mpr c9
   have c9b1 : (t488 != 0) = true := bne_iff_ne.mpr c9
   replace H := Option.bind_eq_some_iff.mp H
   obtain ⟨⟨t493,t496⟩,A290,H⟩ := H
   try dsimp only at H
   have A29 := Aside0.mk A290
   clear A290
   simp only [Option.some.injEq,Prod.mk.injEq] at H
   obtain ⟨rfl,rfl,rfl⟩ := H
   go_enter Try.func15,Try.ntmps15
   try go_wp2_with (first | ((with_reducible refine gate_dst (N:=3) rfl ?_); refine bxe (N:=3) (cs := #[.slice A0_0 l0_0.length c0_0,.int .i64 a0_1]) (t:=25) ?_; intro gb477 hg w30 hbox hb; have BK477 := Aside0.mk (hbox); have GW477 := Aside0.mk ((gw hg : w.heap.size ≤ gb477)); have GE477 := GW477; replace HB := bsA hb; clear hb hbox hg) | ((with_reducible refine gate_dst (N:=6) rfl ?_); refine bxe (N:=6) (cs := #[.slice none 0 0,.int .i64 0]) (t:=25) ?_; intro gb478 hg w31 hbox hb; have BK478 := Aside0.mk (hbox); have GW478 := Aside0.mk ((gw hg : w.heap.size ≤ gb478)); have GE478 := GW478; replace HB := bsA hb; have NB477_478 := Aside0.mk ((nl hg BK477.out)); have NB478_477 := Aside0.mk ((ng hg BK477.out)); replace BK477 := bbA BK477 hb; clear hb hbox hg))
   replace BK477 := Aside0.mk (blk_drew BK477.out)
   replace BK478 := Aside0.mk (blk_drew BK478.out)
   replace HB := Aside0.mk (below_drew1 HB.out)
   refine start_ (n:=13) (S:=fun w' => w'.cell? ⟨gb477,0,none⟩ = some (.slice A0_0 l0_0.length c0_0) ∧ w'.cell? ⟨gb477,1,none⟩ = some (.int .i64 a0_1)) (ds := []) (bm 13 0) (by kernel_rfl) rfl rfl ⟨bl BK477 0,bl BK477 1⟩ (fun hHeld => ?_); refine with_tabW impl_DeleteVersion.tab1 impl_DeleteVersion.bits1 (fun HT_ HW_ => ?_)
   generalize w31.drew = w32 at BK477 BK478 HB hHeld ⊢
   refine pV_ 0 10 (bm 13 1) HT_.out ?_
   refine pV_ 4 14 (bm 13 17) HT_.out ?_
   refine pV_ 5 15 (bm 13 49) HT_.out ?_
   refine pV_ 7 17 (bm 13 177) HT_.out ?_
   refine tk 6 16 (bm 13 241) HT_.out HW_.out hHeld ?_
   refine one_ (i:=1) (N:=some 11) (bm 13 243) rfl rfl (one_of HT_.out (by kernel_rfl)) (by decide) (fun K hK => ?_)
   refine Kd.R_lit_step Kd.string _ 9 ?hg (N:=11) ?hd (xs := ([a1] : List ByteArray)) (inner := [.string a1]) (ok := fun _ => True) (okp := fun _ => True) ?hr ?hp (fun _ hk => hk) trivial (Below.refl _ _) (Nat.le_refl _) (by simp) ?_; (case hd => rfl); (case hg => rfl); (case hr => first | (go_simp; done) | (go_simp; rfl)); (case hp => exact (Reps.one (show Kd.M Kd.string _ _ _ a1 [.string a1] from rfl) (Reps.none _ _)))
   intro v480 w33 ho34 hb hg_ hnew_
   clear hg_ hnew_
   (first | rw [← Ny479.out] at ho34 | (simp only [Int.reduceToNat] at ho34; rw [← Ny479.out] at ho34))
   have HO481 := Aside0.mk (Kd.R_lower ho34 (below_size bA))
   replace BK477 := bbA BK477 hb
   replace BK478 := bbA BK478 hb
   replace HB := bsA hb
   clear hb ho34
   obtain ⟨Ao35,co35,eo35⟩ := Kd.R_slice HO481.out
   (first | subst eo35 | (injection eo35 with f1_ f2_ f3_; have f4_ := f1_.symm; have f5_ := f3_.symm; clear f1_ f2_ f3_; subst f4_; subst f5_))
   refine hK.out _ _ ⟨bl BK477 0,bl BK477 1⟩ (fun hHeld => ?_)
   clear hK K
   refine nw 11 ?_
   refine one_ (i:=2) (N:=some 12) (bm 13 247) rfl rfl (one_of HT_.out (by kernel_rfl)) (by decide) (fun K hK => ?_)
   refine goes_ Try.func24 (by kernel_rfl) rfl #[.slice Ao35 y479.length co35] (by rfl) rfl rfl mA ?_
   with_reducible refine (impl_isLong.calls _ _ y479 t482 _ ?side1 ?side2 A4.out).mono ?_
   (case side1 => repeat (first | exact (Kd.R_reads' HO481.out).2.2 | (with_reducible refine Kd.C_alloc ?_ _) | (with_reducible refine Kd.C_drewN ?_ _) | (with_reducible refine Kd.C_drew ?_)))
   (case side2 => exact (Kd.R_reads' HO481.out).2.1)
   rintro e w36 ⟨rfl,hb⟩
   refine ⟨_,rfl,?_⟩
   replace HO481 := Aside0.mk (Kd.R_below (rA HO481.out) hb)
   replace BK477 := bbA BK477 hb
   replace BK478 := bbA BK478 hb
   replace HB := bsA hb
   clear hb
   refine hK.out _ _ ⟨bl BK477 0,bl BK477 1⟩ (fun hHeld => ?_)
   clear hK K
   refine nw 12 ?_
   refine pV_ 3 13 (bm 13 255) HT_.out ?_
   refine one_ (i:=8) (N:=some 18) (bm 13 511) rfl rfl (one_of HT_.out (by kernel_rfl)) (by decide) (fun K hK => ?_)
   refine goes_ Try.func34 (by kernel_rfl) rfl #[.agg #[.slice A0_0 l0_0.length c0_0,.int .i64 a0_1],.string a1] (by rfl) rfl rfl mA ?_
   with_reducible refine (impl_storeCode.calls k _ _ l0_0 a0_1 a1 t483 _ ?side1 ?side2 A5.out).mono ?_
   (case side1 => exact sC HR0_0.out)
   (case side2 => exact HC0_0.out)
   rintro e w37 ⟨rfl,hb⟩
   refine ⟨_,rfl,?_⟩
   replace HO481 := Aside0.mk (Kd.R_below (rA HO481.out) hb)
   replace BK477 := bbA BK477 hb
   replace BK478 := bbA BK478 hb
   replace HB := bsA hb
   clear hb
   refine hK.out _ _ ⟨bl BK477 0,bl BK477 1⟩ (fun hHeld => ?_)
   clear hK K
   refine nw 18 ?_
   refine pV_ 9 19 (bm 13 1023) HT_.out ?_
   refine one_ (i:=10) (N:=some 20) (bm 13 2047) rfl rfl (one_of HT_.out (by kernel_rfl)) (by decide) (fun K hK => ?_)
   refine Kd.R_lit_step kAny _ 20 ?hg (N:=20) ?hd (xs := ([anyB t482,anyI 2,anyB true,anyI t483] : List AnyV)) (inner := [.iface 4 (.bool t482),.iface 3 (.int .i64 2),.iface 4 (.bool true),.iface 3 (.int .i64 t483)]) (ok := fun _ => True) (okp := fun _ => True) ?hr ?hp (fun _ hk => hk) trivial (Below.refl _ _) (Nat.le_refl _) (by simp) ?_; (case hd => rfl); (case hg => rfl); (case hr => first | (go_simp; done) | (go_simp; rfl)); (case hp => exact (Reps.one (show Kd.M kAny _ _ _ (anyB t482) [.iface 4 (.bool t482)] from rfl) (Reps.one (show Kd.M kAny _ _ _ (anyI 2) [.iface 3 (.int .i64 2)] from rfl) (Reps.one (show Kd.M kAny _ _ _ (anyB true) [.iface 4 (.bool true)] from rfl) (Reps.one (show Kd.M kAny _ _ _ (anyI t483) [.iface 3 (.int .i64 t483)] from rfl) (Reps.none _ _))))))
   intro v485 w38 ho39 hb hg_ hnew_
   clear hg_ hnew_
   (first | rw [← Ny484.out] at ho39 | (simp only [Int.reduceToNat] at ho39; rw [← Ny484.out] at ho39))
   replace HO481 := Aside0.mk (Kd.R_below (rA HO481.out) hb)
   have HO486 := Aside0.mk (Kd.R_lower ho39 (below_size bA))
   replace BK477 := bbA BK477 hb
   replace BK478 := bbA BK478 hb
   replace HB := bsA hb
   clear hb ho39
   obtain ⟨Ao40,co40,eo40⟩ := Kd.R_slice HO486.out
   (first | subst eo40 | (injection eo40 with f1_ f2_ f3_; have f4_ := f1_.symm; have f5_ := f3_.symm; clear f1_ f2_ f3_; subst f4_; subst f5_))
   refine hK.out _ _ ⟨bl BK477 0,bl BK477 1⟩ (fun hHeld => ?_)
   clear hK K
   refine nw 20 ?_
   refine one_ (i:=11) (N:=some 21) (bm 13 4095) rfl rfl (one_of HT_.out (by kernel_rfl)) (by decide) (fun K hK => ?_)
   refine goes_ Try.func23 (by kernel_rfl) rfl #[.slice Ao40 y484.length co40] (by rfl) rfl rfl mA ?_
   with_reducible refine (impl_first.calls k _ _ y484 t487 _ ?side1 ?side2 A6.out).mono ?_
   (case side1 => repeat (first | exact (Kd.R_reads' HO486.out).2.2 | (with_reducible refine Kd.C_alloc ?_ _) | (with_reducible refine Kd.C_drewN ?_ _) | (with_reducible refine Kd.C_drew ?_)))
   (case side2 => exact (Kd.R_reads' HO486.out).2.1)
   rintro e w' ⟨rfl,⟨nd,rfl⟩⟩
   refine ⟨_,rfl,?_⟩
   refine hK.out _ _ ⟨bl BK477 0,bl BK477 1⟩ (fun hHeld => ?_)
   clear hK K
   refine nw 21 ?_
   refine pV_ 12 8 (bm 13 8191) HT_.out ?_
   refine done_ (done_of HT_.out (by kernel_rfl)) ?_
   have hnb41 := NB477_478.out
   have hnc41 := NB478_477.out
   obtain ⟨hcz42_0,hcz42_1⟩ := cl2 BK477.out
   obtain ⟨hfz42_0,hfz42_1⟩ := fz2 BK477.out
   try go_wp2_with (first | ((with_reducible refine gate_callee (f:=41) rfl ?_); refine goesL_ (some 29) rfl rfl Try.func41 (by kernel_rfl) rfl #[.agg #[.slice A0_0 l0_0.length c0_0,.int .i64 a0_1],.string a1,.int .i64 a2] rfl mA ?_; (with_reducible refine (impl_Store_versionCode.calls k _ _ l0_0 a0_1 a1 a2 t488 _ ?side1 ?side2 A8.out).mono ?_); (case side1 => exact sD HR0_0.out); (case side2 => exact HC0_0.out); rintro e w43 ⟨rfl,hb⟩; refine ⟨_,rfl,?_⟩; replace HO481 := Aside0.mk (Kd.R_below (rA HO481.out) hb); replace HO486 := Aside0.mk (Kd.R_below (rA HO486.out) hb); replace BK477 := bbA BK477 hb; replace BK478 := bbA BK478 hb; replace HB := bsA hb; clear hb; obtain ⟨hcz44_0,hcz44_1⟩ := cl2 BK477.out; obtain ⟨hfz44_0,hfz44_1⟩ := fz2 BK477.out) | ((with_reducible refine gate_callee (f:=36) rfl ?_); refine goesL_ (some 33) rfl rfl Try.func36 (by kernel_rfl) rfl #[.agg #[.slice A0_0 l0_0.length c0_0,.int .i64 a0_1]] rfl mA ?_; (with_reducible refine (impl_Store_copied.calls _ _ l0_0 a0_1 t493 t496 _ ?side1 ?side2 A29.out).mono ?_); (case side1 => exact sC HR0_0.out); (case side2 => exact HC0_0.out); rintro e w45 ⟨v494,rfl,ho0,hb⟩; refine ⟨_,rfl,?_⟩; replace HO481 := Aside0.mk (Kd.R_below (rA HO481.out) hb); replace HO486 := Aside0.mk (Kd.R_below (rA HO486.out) hb); have HO495 := Aside0.mk (Kd.R_lower ho0 (below_size bA)); replace BK477 := bbA BK477 hb; replace BK478 := bbA BK478 hb; replace HB := bsA hb; clear hb; (try clear ho0); obtain ⟨Ao46,co46,eo46⟩ := Kd.R_slice HO495.out; subst eo46; obtain ⟨hcz47_0,hcz47_1⟩ := cl2 BK478.out; obtain ⟨hfz47_0,hfz47_1⟩ := fz2 BK478.out))
   refine bodyPost_ret (results_ct rfl _ _ gb478 25 #[.slice Ao46 t493.length co46,.int .i64 t496] (0,0) _ rfl (kP2 BK478.out) Try.underlying25 rfl (by kernel_rfl)) rfl ?_
   exact ⟨_,by first | rfl | (simp [errW_none,errW_some] <;> rfl) | (simp [*,errW_none,errW_some] <;> rfl),by (with_reducible repeat (first | apply Kd.R_alloc | apply Kd.R_drewN | apply Kd.R_drew)); exact Kd.R_mono (Kd.R_far (p:=⟨gb478,1,none⟩) (Kd.R_far (p:=⟨gb478,0,none⟩) (Kd.R_types HO495.out BK478.out (by decide)) (fun _ hk => hk.2) (.slice Ao46 t493.length co46)) (fun _ hk => hk.2) (.int .i64 t496)) (fun _ hk => trivial),bA⟩
 ·rw [if_neg c7] at H
  have c7b0 : (t487 == 0) = false := beq_eq_false_iff_ne.mpr c7
  have c7b1 : (t487 != 0) = true := bne_iff_ne.mpr c7
  simp only [Option.some.injEq,Prod.mk.injEq] at H
  obtain ⟨rfl,rfl,rfl⟩ := H
  go_enter Try.func15,Try.ntmps15
  try go_wp2_with (first | ((with_reducible refine gate_dst (N:=3) rfl ?_); refine bxe (N:=3) (cs := #[.slice A0_0 l0_0.length c0_0,.int .i64 a0_1]) (t:=25) ?_; intro gb477 hg w48 hbox hb; have BK477 := Aside0.mk (hbox); have GW477 := Aside0.mk ((gw hg : w.heap.size ≤ gb477)); have GE477 := GW477; replace HB := bsA hb; clear hb hbox hg) | ((with_reducible refine gate_dst (N:=6) rfl ?_); refine bxe (N:=6) (cs := #[.slice none 0 0,.int .i64 0]) (t:=25) ?_; intro gb478 hg w49 hbox hb; have BK478 := Aside0.mk (hbox); have GW478 := Aside0.mk ((gw hg : w.heap.size ≤ gb478)); have GE478 := GW478; replace HB := bsA hb; have NB477_478 := Aside0.mk ((nl hg BK477.out)); have NB478_477 := Aside0.mk ((ng hg BK477.out)); replace BK477 := bbA BK477 hb; clear hb hbox hg))
  replace BK477 := Aside0.mk (blk_drew BK477.out)
  replace BK478 := Aside0.mk (blk_drew BK478.out)
  replace HB := Aside0.mk (below_drew1 HB.out)
  refine start_ (n:=13) (S:=fun w' => w'.cell? ⟨gb477,0,none⟩ = some (.slice A0_0 l0_0.length c0_0) ∧ w'.cell? ⟨gb477,1,none⟩ = some (.int .i64 a0_1)) (ds := []) (bm 13 0) (by kernel_rfl) rfl rfl ⟨bl BK477 0,bl BK477 1⟩ (fun hHeld => ?_); refine with_tabW impl_DeleteVersion.tab1 impl_DeleteVersion.bits1 (fun HT_ HW_ => ?_)
  generalize w49.drew = w50 at BK477 BK478 HB hHeld ⊢
  refine pV_ 0 10 (bm 13 1) HT_.out ?_
  refine pV_ 4 14 (bm 13 17) HT_.out ?_
  refine pV_ 5 15 (bm 13 49) HT_.out ?_
  refine pV_ 7 17 (bm 13 177) HT_.out ?_
  refine tk 6 16 (bm 13 241) HT_.out HW_.out hHeld ?_
  refine one_ (i:=1) (N:=some 11) (bm 13 243) rfl rfl (one_of HT_.out (by kernel_rfl)) (by decide) (fun K hK => ?_)
  refine Kd.R_lit_step Kd.string _ 9 ?hg (N:=11) ?hd (xs := ([a1] : List ByteArray)) (inner := [.string a1]) (ok := fun _ => True) (okp := fun _ => True) ?hr ?hp (fun _ hk => hk) trivial (Below.refl _ _) (Nat.le_refl _) (by simp) ?_; (case hd => rfl); (case hg => rfl); (case hr => first | (go_simp; done) | (go_simp; rfl)); (case hp => exact (Reps.one (show Kd.M Kd.string _ _ _ a1 [.string a1] from rfl) (Reps.none _ _)))
  intro v480 w51 ho52 hb hg_ hnew_
  clear hg_ hnew_
  (first | rw [← Ny479.out] at ho52 | (simp only [Int.reduceToNat] at ho52; rw [← Ny479.out] at ho52))
  have HO481 := Aside0.mk (Kd.R_lower ho52 (below_size bA))
  replace BK477 := bbA BK477 hb
  replace BK478 := bbA BK478 hb
  replace HB := bsA hb
  clear hb ho52
  obtain ⟨Ao53,co53,eo53⟩ := Kd.R_slice HO481.out
  (first | subst eo53 | (injection eo53 with f1_ f2_ f3_; have f4_ := f1_.symm; have f5_ := f3_.symm; clear f1_ f2_ f3_; subst f4_; subst f5_))
  refine hK.out _ _ ⟨bl BK477 0,bl BK477 1⟩ (fun hHeld => ?_)
  clear hK K
  refine nw 11 ?_
  refine one_ (i:=2) (N:=some 12) (bm 13 247) rfl rfl (one_of HT_.out (by kernel_rfl)) (by decide) (fun K hK => ?_)
  refine goes_ Try.func24 (by kernel_rfl) rfl #[.slice Ao53 y479.length co53] (by rfl) rfl rfl mA ?_
  with_reducible refine (impl_isLong.calls _ _ y479 t482 _ ?side1 ?side2 A4.out).mono ?_
  (case side1 => repeat (first | exact (Kd.R_reads' HO481.out).2.2 | (with_reducible refine Kd.C_alloc ?_ _) | (with_reducible refine Kd.C_drewN ?_ _) | (with_reducible refine Kd.C_drew ?_)))
  (case side2 => exact (Kd.R_reads' HO481.out).2.1)
  rintro e w54 ⟨rfl,hb⟩
  refine ⟨_,rfl,?_⟩
  replace HO481 := Aside0.mk (Kd.R_below (rA HO481.out) hb)
  replace BK477 := bbA BK477 hb
  replace BK478 := bbA BK478 hb
  replace HB := bsA hb
  clear hb
  refine hK.out _ _ ⟨bl BK477 0,bl BK477 1⟩ (fun hHeld => ?_)
  clear hK K
  refine nw 12 ?_
  refine pV_ 3 13 (bm 13 255) HT_.out ?_
  refine one_ (i:=8) (N:=some 18) (bm 13 511) rfl rfl (one_of HT_.out (by kernel_rfl)) (by decide) (fun K hK => ?_)
  refine goes_ Try.func34 (by kernel_rfl) rfl #[.agg #[.slice A0_0 l0_0.length c0_0,.int .i64 a0_1],.string a1] (by rfl) rfl rfl mA ?_
  with_reducible refine (impl_storeCode.calls k _ _ l0_0 a0_1 a1 t483 _ ?side1 ?side2 A5.out).mono ?_
  (case side1 => exact sC HR0_0.out)
  (case side2 => exact HC0_0.out)
  rintro e w55 ⟨rfl,hb⟩
  refine ⟨_,rfl,?_⟩
  replace HO481 := Aside0.mk (Kd.R_below (rA HO481.out) hb)
  replace BK477 := bbA BK477 hb
  replace BK478 := bbA BK478 hb
  replace HB := bsA hb
  clear hb
  refine hK.out _ _ ⟨bl BK477 0,bl BK477 1⟩ (fun hHeld => ?_)
  clear hK K
  refine nw 18 ?_
  refine pV_ 9 19 (bm 13 1023) HT_.out ?_
  refine one_ (i:=10) (N:=some 20) (bm 13 2047) rfl rfl (one_of HT_.out (by kernel_rfl)) (by decide) (fun K hK => ?_)
  refine Kd.R_lit_step kAny _ 20 ?hg (N:=20) ?hd (xs := ([anyB t482,anyI 2,anyB true,anyI t483] : List AnyV)) (inner := [.iface 4 (.bool t482),.iface 3 (.int .i64 2),.iface 4 (.bool true),.iface 3 (.int .i64 t483)]) (ok := fun _ => True) (okp := fun _ => True) ?hr ?hp (fun _ hk => hk) trivial (Below.refl _ _) (Nat.le_refl _) (by simp) ?_; (case hd => rfl); (case hg => rfl); (case hr => first | (go_simp; done) | (go_simp; rfl)); (case hp => exact (Reps.one (show Kd.M kAny _ _ _ (anyB t482) [.iface 4 (.bool t482)] from rfl) (Reps.one (show Kd.M kAny _ _ _ (anyI 2) [.iface 3 (.int .i64 2)] from rfl) (Reps.one (show Kd.M kAny _ _ _ (anyB true) [.iface 4 (.bool true)] from rfl) (Reps.one (show Kd.M kAny _ _ _ (anyI t483) [.iface 3 (.int .i64 t483)] from rfl) (Reps.none _ _))))))
  intro v485 w56 ho57 hb hg_ hnew_
  clear hg_ hnew_
  (first | rw [← Ny484.out] at ho57 | (simp only [Int.reduceToNat] at ho57; rw [← Ny484.out] at ho57))
  replace HO481 := Aside0.mk (Kd.R_below (rA HO481.out) hb)
  have HO486 := Aside0.mk (Kd.R_lower ho57 (below_size bA))
  replace BK477 := bbA BK477 hb
  replace BK478 := bbA BK478 hb
  replace HB := bsA hb
  clear hb ho57
  obtain ⟨Ao58,co58,eo58⟩ := Kd.R_slice HO486.out
  (first | subst eo58 | (injection eo58 with f1_ f2_ f3_; have f4_ := f1_.symm; have f5_ := f3_.symm; clear f1_ f2_ f3_; subst f4_; subst f5_))
  refine hK.out _ _ ⟨bl BK477 0,bl BK477 1⟩ (fun hHeld => ?_)
  clear hK K
  refine nw 20 ?_
  refine one_ (i:=11) (N:=some 21) (bm 13 4095) rfl rfl (one_of HT_.out (by kernel_rfl)) (by decide) (fun K hK => ?_)
  refine goes_ Try.func23 (by kernel_rfl) rfl #[.slice Ao58 y484.length co58] (by rfl) rfl rfl mA ?_
  with_reducible refine (impl_first.calls k _ _ y484 t487 _ ?side1 ?side2 A6.out).mono ?_
  (case side1 => repeat (first | exact (Kd.R_reads' HO486.out).2.2 | (with_reducible refine Kd.C_alloc ?_ _) | (with_reducible refine Kd.C_drewN ?_ _) | (with_reducible refine Kd.C_drew ?_)))
  (case side2 => exact (Kd.R_reads' HO486.out).2.1)
  rintro e w' ⟨rfl,⟨nd,rfl⟩⟩
  refine ⟨_,rfl,?_⟩
  refine hK.out _ _ ⟨bl BK477 0,bl BK477 1⟩ (fun hHeld => ?_)
  clear hK K
  refine nw 21 ?_
  refine pV_ 12 8 (bm 13 8191) HT_.out ?_
  refine done_ (done_of HT_.out (by kernel_rfl)) ?_
  have hnb59 := NB478_477.out
  have hnc59 := NB477_478.out
  obtain ⟨hcz60_0,hcz60_1⟩ := cl2 BK478.out
  obtain ⟨hfz60_0,hfz60_1⟩ := fz2 BK478.out
  try go_wp2
  refine bodyPost_ret (results_ct rfl _ _ gb478 25 #[.slice none 0 0,.int .i64 0] (0,0) _ rfl (kP2 BK478.out) Try.underlying25 rfl (by kernel_rfl)) rfl ?_
  exact ⟨_,by first | rfl | (simp [errW_none,errW_some] <;> rfl) | (simp [*,errW_none,errW_some] <;> rfl),by first | exact Kd.R_nil _ _ _ _ _ | exact Kd.N_nil _ _ _ _ _ | exact Kd.V_nil _ _ _ _ _ | exact Kd.Q_nil _ _ _ _ _ | exact Kd.S_nil _ _ _ _ _,bA⟩

end Go.Proofs.Ytgkfemnfbkgeiaa.XFnStore
