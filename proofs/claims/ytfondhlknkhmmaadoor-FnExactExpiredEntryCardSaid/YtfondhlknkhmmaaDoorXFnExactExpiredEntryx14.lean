-- Printed by this session's own program wip/tools/xprint.py, which widens the kit's print. Not trusted: Lean checks it.
import Derived.Test.YtfondhlknkhmmaaDoorXFnExactExpiredEntryx0
import Derived.Test.YtfondhlknkhmmaaDoorXFnExactExpiredEntryx1
import Derived.Test.YtfondhlknkhmmaaDoorXFnExactExpiredEntryx3
import Derived.Test.YtfondhlknkhmmaaDoorXFnExactExpiredEntryx9
import Derived.Test.YtfondhlknkhmmaaDoorXFnExactExpiredEntryx11
import Derived.Test.YtfondhlknkhmmaaDoorXFnExactExpiredEntryx12
import Derived.Test.YtfondhlknkhmmaaDoorXFnExactExpiredEntryx13
namespace Go.Proofs.YtfondhlknkhmmaaDoor.XFnExactExpiredEntry
open List (setIfInBounds_toArray set_cons_zero set_cons_succ)
open Go.RowKit Go.Proofs.YtfondhlknkhmmaaDoorW.PrintWords Go.Proofs.YtfondhlknkhmmaaDoorW.PrintLast Go.Proofs.YtfondhlknkhmmaaDoorW.PrintMore
attribute [local go_sem] max2_int min2_int max_two min_two max_three min_three max_four min_four   -- for this text's walks alone
set_option linter.unusedVariables false
set_option linter.unusedSimpArgs false

/-! ### impl_ExpiredEntry: function 14 -/
def impl_ExpiredEntry.f (k : Nat) (a0_0 : Int) (a0_1 : Int) (l0_2 : List (S39)) (l0_3 : List (S55)) (a0_4 : Int) (a0_5 : Int) (a0_6 : Int) (a0_7 : Int) (a0_8 : Int) (a0_9 : Int) (a1 : Int) : Option (Int × Int × Int × ByteArray × Bool × Int) := (impl_StateOK.f k a0_0 a0_1 l0_2 l0_3 a0_4 a0_5 a0_6 a0_7 a0_8 a0_9).bind fun t344 => ((impl_isNow.f a1).bind fun t345 => ((impl_first.f k (([anyB (!t344),anyI 1,anyB (!t345),anyI 4] : List AnyV))).bind fun t349 => (if t349 = 0 then ((impl_State_expired.f k a0_0 a0_1 l0_2 l0_3 a0_4 a0_5 a0_6 a0_7 a0_8 a0_9 a1).bind fun bt350 => (some (bt350.1,bt350.2.1,bt350.2.2.1,bt350.2.2.2.1,bt350.2.2.2.2,0))) else (some (0,0,0,(⟨#[]⟩ : ByteArray),false,t349)))))
theorem impl_ExpiredEntry.mono : ∀ a0 a1 a2 a3 a4 a5 a6 a7 a8 a9 a10 k,LeO (impl_ExpiredEntry.f k a0 a1 a2 a3 a4 a5 a6 a7 a8 a9 a10) (impl_ExpiredEntry.f (k + 1) a0 a1 a2 a3 a4 a5 a6 a7 a8 a9 a10) := by
 intro a0 a1 a2 a3 a4 a5 a6 a7 a8 a9 a10 k
 unfold impl_ExpiredEntry.f
 repeat' first
   | (with_reducible exact impl_StateOK.mono _ _ _ _ _ _ _ _ _ _ _)
   | (with_reducible exact impl_State_expired.mono _ _ _ _ _ _ _ _ _ _ _ _)
   | (with_reducible exact impl_first.mono _ _)
   | (with_reducible exact LeO.refl _)
   | (with_reducible exact LeO.none _)
   | (with_reducible refine LeO.ite ?_ ?_)
   | (with_reducible refine LeO.bind ?_ (fun _ => ?_))
   | exact impl_StateOK.mono _ _ _ _ _ _ _ _ _ _ _
   | exact impl_State_expired.mono _ _ _ _ _ _ _ _ _ _ _ _
   | exact impl_first.mono _ _
   | exact LeO.none _
   | refine LeO.ite ?_ ?_
   | refine LeO.bind ?_ (fun _ => ?_)
set_option maxHeartbeats 8000000 in
set_option maxRecDepth 100000 in
theorem impl_ExpiredEntry.calls (k : Nat) (a0_0 : Int) (a0_1 : Int) (A0_2 : Option Addr) (c0_2 : Nat) (l0_2 : List (S39)) (A0_3 : Option Addr) (c0_3 : Nat) (l0_3 : List (S55)) (a0_4 : Int) (a0_5 : Int) (a0_6 : Int) (a0_7 : Int) (a0_8 : Int) (a0_9 : Int) (a1 : Int) (r1 : Int) (r2 : Int) (r3 : Int) (r4 : ByteArray) (r5 : Bool) (r6 : Int) (w : World) (hV : Vars w) (hr0_2 : Kd.C k39 w A0_2 l0_2.length l0_2) (hc0_2 : l0_2.length ≤ c0_2) (hr0_3 : Kd.C k55 w A0_3 l0_3.length l0_3) (hc0_3 : l0_3.length ≤ c0_3) (h : impl_ExpiredEntry.f k a0_0 a0_1 l0_2 l0_3 a0_4 a0_5 a0_6 a0_7 a0_8 a0_9 a1 = some (r1,r2,r3,r4,r5,r6)) :
  Calls Tryd.prog 14 #[.agg #[.int .i64 a0_0,.int .i64 a0_1,.slice A0_2 l0_2.length c0_2,.slice A0_3 l0_3.length c0_3,.int .i64 a0_4,.int .i64 a0_5,.int .i64 a0_6,.int .i64 a0_7,.int .i64 a0_8,.int .i64 a0_9],.int .i64 a1] w fun e w' => e = .returned (.tuple #[.agg #[.int .i64 r1,.int .i64 r2,.int .i64 r3,.string r4],.bool r5,.int .i64 r6]) ∧ Below w.heap.size w w' := by
 have hu32 := Tryd.underlying32
 have hu39 := Tryd.underlying39
 have hua20 := Tryd.underlying20
 have HR0_2 := Aside0.mk hr0_2
 have HC0_2 := Aside0.mk hc0_2
 clear hr0_2 hc0_2
 have HR0_3 := Aside0.mk hr0_3
 have HC0_3 := Aside0.mk hc0_3
 clear hr0_3 hc0_3
 have HV := Aside0.mk hV
 clear hV
 have HB := Aside0.mk (Below.refl w.heap.size w)
 have H : ((impl_StateOK.f k a0_0 a0_1 l0_2 l0_3 a0_4 a0_5 a0_6 a0_7 a0_8 a0_9).bind fun t344 => ((impl_isNow.f a1).bind fun t345 => ((impl_first.f k (([anyB (!t344),anyI 1,anyB (!t345),anyI 4] : List AnyV))).bind fun t349 => (if t349 = 0 then ((impl_State_expired.f k a0_0 a0_1 l0_2 l0_3 a0_4 a0_5 a0_6 a0_7 a0_8 a0_9 a1).bind fun bt350 => (some (bt350.1,bt350.2.1,bt350.2.2.1,bt350.2.2.2.1,bt350.2.2.2.2,0))) else (some (0,0,0,(⟨#[]⟩ : ByteArray),false,t349)))))) = some (r1,r2,r3,r4,r5,r6) := h
 clear h
 replace H := Option.bind_eq_some_iff.mp H
 obtain ⟨t344,A30,H⟩ := H
 try dsimp only at H
 have A3 := Aside0.mk A30
 clear A30
 replace H := Option.bind_eq_some_iff.mp H
 obtain ⟨t345,A40,H⟩ := H
 try dsimp only at H
 have A4 := Aside0.mk A40
 clear A40
 obtain ⟨y346,hy346⟩ : ∃ y_ : List AnyV,y_ = (([anyB (!t344),anyI 1,anyB (!t345),anyI 4] : List AnyV)) := ⟨_,rfl⟩
 replace H : ((impl_first.f k y346).bind fun t349 => (if t349 = 0 then ((impl_State_expired.f k a0_0 a0_1 l0_2 l0_3 a0_4 a0_5 a0_6 a0_7 a0_8 a0_9 a1).bind fun bt350 => (some (bt350.1,bt350.2.1,bt350.2.2.1,bt350.2.2.2.1,bt350.2.2.2.2,0))) else (some (0,0,0,(⟨#[]⟩ : ByteArray),false,t349)))) = some (r1,r2,r3,r4,r5,r6) := by first | (rw [hy346]; with_reducible exact H) | (have H2_ := (Option.bind_some _ _).symm.trans H; rw [hy346]; with_reducible exact H2_) | (have H2_ := (Option.bind_some _ _).symm.trans H; with_reducible exact H2_) | with_reducible exact H | (rw [hy346]; exact H) | exact H
 have Ny346 := Aside0.mk hy346
 clear hy346
 replace H := Option.bind_eq_some_iff.mp H
 obtain ⟨t349,A50,H⟩ := H
 try dsimp only at H
 have A5 := Aside0.mk A50
 clear A50
 by_cases c6 : t349 = 0
 ·rw [if_pos c6] at H
  have c6b0 : (t349 == 0) = true := beq_iff_eq.mpr c6
  have c6b1 : (t349 != 0) = false := bne_eq_false_iff_eq.mpr c6
  clear c6
  replace H := Option.bind_eq_some_iff.mp H
  obtain ⟨⟨t350,t351,t352,t353,t354⟩,A70,H⟩ := H
  try dsimp only at H
  have A7 := Aside0.mk A70
  clear A70
  simp only [Option.some.injEq,Prod.mk.injEq] at H
  obtain ⟨rfl,rfl,rfl,rfl,rfl,rfl⟩ := H
  go_enter Tryd.func14,Tryd.ntmps14
  go_wp2_with (first | ((with_reducible refine gate_dst (N:=2) rfl ?_); refine box_event ?hg (N:=2) ?hd (cs := #[.int .i64 a0_0,.int .i64 a0_1,.slice A0_2 l0_2.length c0_2,.slice A0_3 l0_3.length c0_3,.int .i64 a0_4,.int .i64 a0_5,.int .i64 a0_6,.int .i64 a0_7,.int .i64 a0_8,.int .i64 a0_9]) (t:=32) ?hr ?_; (case hd => rfl); (case hg => rfl); (case hr => first | (go_simp; done) | (go_simp; rfl)); intro gb342 hg w8 hbox hb; have n0_ := Aside0.mk (below_step bA hb); have n1_ := Aside0.mk (hbox); have n2_ := Aside0.mk ((gw hg : w.heap.size ≤ gb342)); have n3_ := Aside0.mk ((gw hg : w.heap.size ≤ gb342)); clear HB; have HB := n0_; have BK342 := n1_; have GW342 := n2_; have GE342 := n3_; clear n0_ n1_ n2_ n3_; clear hb hbox hg) | ((with_reducible refine gate_dst (N:=4) rfl ?_); refine box_event ?hg (N:=4) ?hd (cs := #[.int .i64 0,.int .i64 0,.int .i64 0,.string (⟨#[]⟩ : ByteArray)]) (t:=39) ?hr ?_; (case hd => rfl); (case hg => rfl); (case hr => first | (go_simp; done) | (go_simp; rfl)); intro gb343 hg w9 hbox hb; have n0_ := Aside0.mk (blk_below (g:=gb342) (o:=.cells #[.int .i64 a0_0,.int .i64 a0_1,.slice A0_2 l0_2.length c0_2,.slice A0_3 l0_3.length c0_3,.int .i64 a0_4,.int .i64 a0_5,.int .i64 a0_6,.int .i64 a0_7,.int .i64 a0_8,.int .i64 a0_9] 32 (0,0)) (kA BK342.out) hb); have n1_ := Aside0.mk (below_step bA hb); have n2_ := Aside0.mk (hbox); have n3_ := Aside0.mk ((gw hg : w.heap.size ≤ gb343)); have n4_ := Aside0.mk ((gw hg : w.heap.size ≤ gb343)); have n5_ := Aside0.mk ((by rw [hg]; exact Nat.ne_of_lt (blk_lt (g:=gb342) (o:=.cells #[.int .i64 a0_0,.int .i64 a0_1,.slice A0_2 l0_2.length c0_2,.slice A0_3 l0_3.length c0_3,.int .i64 a0_4,.int .i64 a0_5,.int .i64 a0_6,.int .i64 a0_7,.int .i64 a0_8,.int .i64 a0_9] 32 (0,0)) (kA BK342.out)) : gb342 ≠ gb343)); have n6_ := Aside0.mk ((by rw [hg]; exact Nat.ne_of_gt (blk_lt (g:=gb342) (o:=.cells #[.int .i64 a0_0,.int .i64 a0_1,.slice A0_2 l0_2.length c0_2,.slice A0_3 l0_3.length c0_3,.int .i64 a0_4,.int .i64 a0_5,.int .i64 a0_6,.int .i64 a0_7,.int .i64 a0_8,.int .i64 a0_9] 32 (0,0)) (kA BK342.out)) : gb343 ≠ gb342)); clear BK342; clear HB; have BK342 := n0_; have HB := n1_; have BK343 := n2_; have GW343 := n3_; have GE343 := n4_; have NB342_343 := n5_; have NB343_342 := n6_; clear n0_ n1_ n2_ n3_ n4_ n5_ n6_; clear hb hbox hg; have hnb10 := NB342_343.out; have hnc10 := NB343_342.out; obtain ⟨hcz11_0,hcz11_1,hcz11_2,hcz11_3,hcz11_4,hcz11_5,hcz11_6,hcz11_7,hcz11_8,hcz11_9⟩ := cl10 BK342.out; obtain ⟨hfz11_0,hfz11_1,hfz11_2,hfz11_3,hfz11_4,hfz11_5,hfz11_6,hfz11_7,hfz11_8,hfz11_9⟩ := fz10 BK342.out) | ((with_reducible refine gate_callee (f:=9) rfl ?_); refine goesL_ (some 11) rfl rfl Tryd.func9 (by kernel_rfl) rfl #[.agg #[.int .i64 a0_0,.int .i64 a0_1,.slice A0_2 l0_2.length c0_2,.slice A0_3 l0_3.length c0_3,.int .i64 a0_4,.int .i64 a0_5,.int .i64 a0_6,.int .i64 a0_7,.int .i64 a0_8,.int .i64 a0_9]] rfl mA ?_; (with_reducible refine (impl_StateOK.calls k a0_0 a0_1 _ _ l0_2 _ _ l0_3 a0_4 a0_5 a0_6 a0_7 a0_8 a0_9 t344 _ ?side1 ?side2 ?side3 ?side4 ?side5 A3.out).mono ?_); (case side1 => exact HV.out.below bA); (case side2 => repeat (first | exact (Kd.C_below HR0_2.out HB.out) | (with_reducible refine Kd.C_alloc ?_ _) | (with_reducible refine Kd.C_drewN ?_ _) | (with_reducible refine Kd.C_drew ?_))); (case side3 => exact HC0_2.out); (case side4 => repeat (first | exact (Kd.C_below HR0_3.out HB.out) | (with_reducible refine Kd.C_alloc ?_ _) | (with_reducible refine Kd.C_drewN ?_ _) | (with_reducible refine Kd.C_drew ?_))); (case side5 => exact HC0_3.out); rintro e w12 ⟨rfl,hb⟩; refine ⟨_,rfl,?_⟩; have n0_ := Aside0.mk (blk_below (g:=gb342) (o:=.cells #[.int .i64 a0_0,.int .i64 a0_1,.slice A0_2 l0_2.length c0_2,.slice A0_3 l0_3.length c0_3,.int .i64 a0_4,.int .i64 a0_5,.int .i64 a0_6,.int .i64 a0_7,.int .i64 a0_8,.int .i64 a0_9] 32 (0,0)) (kA BK342.out) hb); have n1_ := Aside0.mk (blk_below (g:=gb343) (o:=.cells #[.int .i64 0,.int .i64 0,.int .i64 0,.string (⟨#[]⟩ : ByteArray)] 39 (0,0)) (kA BK343.out) hb); have n2_ := Aside0.mk (below_step bA hb); clear BK342; clear BK343; clear HB; have BK342 := n0_; have BK343 := n1_; have HB := n2_; clear n0_ n1_ n2_; (try clear hb); (try clear hb2); (try clear hk); (try clear hi)) | ((with_reducible refine gate_callee (f:=39) rfl ?_); refine goesL_ (some 16) rfl rfl Tryd.func39 (by kernel_rfl) rfl #[.int .i64 a1] rfl mA ?_; (with_reducible refine (impl_isNow.calls a1 t345 _ A4.out).mono ?_); rintro e w' ⟨rfl,⟨nd,rfl⟩⟩; refine ⟨_,rfl,?_⟩; (try (rw [drewN_self w12]; generalize hq_ : World.drewN w12 _ = w12; have n0_ : Aside0 (w12.heap[gb342]? = some (.cells #[.int .i64 a0_0,.int .i64 a0_1,.slice A0_2 l0_2.length c0_2,.slice A0_3 l0_3.length c0_3,.int .i64 a0_4,.int .i64 a0_5,.int .i64 a0_6,.int .i64 a0_7,.int .i64 a0_8,.int .i64 a0_9] 32 (0,0))) := ⟨by rw [← hq_]; exact (kA BK342.out)⟩; have n1_ : Aside0 (w12.heap[gb343]? = some (.cells #[.int .i64 0,.int .i64 0,.int .i64 0,.string (⟨#[]⟩ : ByteArray)] 39 (0,0))) := ⟨by rw [← hq_]; exact (kA BK343.out)⟩; have n2_ : Aside0 (Below w.heap.size w w12) := ⟨by rw [← hq_]; exact bA⟩; clear BK342 BK343 HB hq_; have BK342 := n0_; have BK343 := n1_; have HB := n2_; clear n0_ n1_ n2_))) | ((with_reducible refine gate_dst (N:=20) rfl ?_); refine Kd.R_lit kAny _ 20 ?hg (N:=20) ?hd (xs := ([anyB (!t344),anyI 1,anyB (!t345),anyI 4] : List AnyV)) (inner := [.iface 4 (.bool (!t344)),.iface 3 (.int .i64 1),.iface 4 (.bool (!t345)),.iface 3 (.int .i64 4)]) (ok := fun _ => True) (okp := fun _ => True) ?hr ?hp (fun _ hk => hk) trivial (Below.refl _ _) (Nat.le_refl _) (by simp) ?_; (case hd => rfl); (case hg => rfl); (case hr => first | (go_simp; done) | (go_simp; rfl)); (case hp => exact (Reps.one (show Kd.M kAny _ _ _ (anyB (!t344)) [.iface 4 (.bool (!t344))] from rfl) (Reps.one (show Kd.M kAny _ _ _ (anyI 1) [.iface 3 (.int .i64 1)] from rfl) (Reps.one (show Kd.M kAny _ _ _ (anyB (!t345)) [.iface 4 (.bool (!t345))] from rfl) (Reps.one (show Kd.M kAny _ _ _ (anyI 4) [.iface 3 (.int .i64 4)] from rfl) (Reps.none _ _)))))); intro v347 w13 ho14 hb hg_ hnew_; clear hg_ hnew_; (first | rw [← Ny346.out] at ho14 | (simp only [Int.reduceToNat] at ho14; rw [← Ny346.out] at ho14)); have n0_ := Aside0.mk (Kd.R_lower ho14 (below_size bA)); have n1_ := Aside0.mk (blk_below (g:=gb342) (o:=.cells #[.int .i64 a0_0,.int .i64 a0_1,.slice A0_2 l0_2.length c0_2,.slice A0_3 l0_3.length c0_3,.int .i64 a0_4,.int .i64 a0_5,.int .i64 a0_6,.int .i64 a0_7,.int .i64 a0_8,.int .i64 a0_9] 32 (0,0)) (kA BK342.out) hb); have n2_ := Aside0.mk (blk_below (g:=gb343) (o:=.cells #[.int .i64 0,.int .i64 0,.int .i64 0,.string (⟨#[]⟩ : ByteArray)] 39 (0,0)) (kA BK343.out) hb); have n3_ := Aside0.mk (below_step bA hb); clear BK342; clear BK343; clear HB; have HO348 := n0_; have BK342 := n1_; have BK343 := n2_; have HB := n3_; clear n0_ n1_ n2_ n3_; clear hb ho14; obtain ⟨Ao15,co15,eo15⟩ := Kd.R_slice HO348.out; subst eo15) | ((with_reducible refine gate_callee (f:=38) rfl ?_); refine goesL_ (some 21) rfl rfl Tryd.func38 (by kernel_rfl) rfl #[.slice Ao15 y346.length co15] rfl mA ?_; (with_reducible refine (impl_first.calls k _ _ y346 t349 _ ?side1 ?side2 A5.out).mono ?_); (case side1 => repeat (first | exact (Kd.R_reads' HO348.out).2.2 | (with_reducible refine Kd.C_alloc ?_ _) | (with_reducible refine Kd.C_drewN ?_ _) | (with_reducible refine Kd.C_drew ?_))); (case side2 => exact (Kd.R_reads' HO348.out).2.1); rintro e w' ⟨rfl,⟨nd,rfl⟩⟩; refine ⟨_,rfl,?_⟩; (try (rw [drewN_self w13]; generalize hq_ : World.drewN w13 _ = w13; have n0_ : Aside0 (Kd.R kAny 20 w13 w.heap.size (fun _ => True) (.slice Ao15 y346.length co15) y346) := ⟨by rw [← hq_]; exact (rA HO348.out)⟩; have n1_ : Aside0 (w13.heap[gb342]? = some (.cells #[.int .i64 a0_0,.int .i64 a0_1,.slice A0_2 l0_2.length c0_2,.slice A0_3 l0_3.length c0_3,.int .i64 a0_4,.int .i64 a0_5,.int .i64 a0_6,.int .i64 a0_7,.int .i64 a0_8,.int .i64 a0_9] 32 (0,0))) := ⟨by rw [← hq_]; exact (kA BK342.out)⟩; have n2_ : Aside0 (w13.heap[gb343]? = some (.cells #[.int .i64 0,.int .i64 0,.int .i64 0,.string (⟨#[]⟩ : ByteArray)] 39 (0,0))) := ⟨by rw [← hq_]; exact (kA BK343.out)⟩; have n3_ : Aside0 (Below w.heap.size w w13) := ⟨by rw [← hq_]; exact bA⟩; clear HO348 BK342 BK343 HB hq_; have HO348 := n0_; have BK342 := n1_; have BK343 := n2_; have HB := n3_; clear n0_ n1_ n2_ n3_)); obtain ⟨hcz16_0,hcz16_1,hcz16_2,hcz16_3,hcz16_4,hcz16_5,hcz16_6,hcz16_7,hcz16_8,hcz16_9⟩ := cl10 BK342.out; obtain ⟨hfz16_0,hfz16_1,hfz16_2,hfz16_3,hfz16_4,hfz16_5,hfz16_6,hfz16_7,hfz16_8,hfz16_9⟩ := fz10 BK342.out) | ((with_reducible refine gate_callee (f:=40) rfl ?_); refine goesL_ (some 29) rfl rfl Tryd.func40 (by kernel_rfl) rfl #[.agg #[.int .i64 a0_0,.int .i64 a0_1,.slice A0_2 l0_2.length c0_2,.slice A0_3 l0_3.length c0_3,.int .i64 a0_4,.int .i64 a0_5,.int .i64 a0_6,.int .i64 a0_7,.int .i64 a0_8,.int .i64 a0_9],.int .i64 a1] rfl mA ?_; (with_reducible refine (impl_State_expired.calls k a0_0 a0_1 _ _ l0_2 _ _ l0_3 a0_4 a0_5 a0_6 a0_7 a0_8 a0_9 a1 t350 t351 t352 t353 t354 _ ?side1 ?side2 ?side3 ?side4 A7.out).mono ?_); (case side1 => repeat (first | exact (Kd.C_below HR0_2.out HB.out) | (with_reducible refine Kd.C_alloc ?_ _) | (with_reducible refine Kd.C_drewN ?_ _) | (with_reducible refine Kd.C_drew ?_))); (case side2 => exact HC0_2.out); (case side3 => repeat (first | exact (Kd.C_below HR0_3.out HB.out) | (with_reducible refine Kd.C_alloc ?_ _) | (with_reducible refine Kd.C_drewN ?_ _) | (with_reducible refine Kd.C_drew ?_))); (case side4 => exact HC0_3.out); rintro e w17 ⟨rfl,hb⟩; refine ⟨_,rfl,?_⟩; have n0_ := Aside0.mk (Kd.R_below (rA HO348.out) hb); have n1_ := Aside0.mk (blk_below (g:=gb342) (o:=.cells #[.int .i64 a0_0,.int .i64 a0_1,.slice A0_2 l0_2.length c0_2,.slice A0_3 l0_3.length c0_3,.int .i64 a0_4,.int .i64 a0_5,.int .i64 a0_6,.int .i64 a0_7,.int .i64 a0_8,.int .i64 a0_9] 32 (0,0)) (kA BK342.out) hb); have n2_ := Aside0.mk (blk_below (g:=gb343) (o:=.cells #[.int .i64 0,.int .i64 0,.int .i64 0,.string (⟨#[]⟩ : ByteArray)] 39 (0,0)) (kA BK343.out) hb); have n3_ := Aside0.mk (below_step bA hb); clear HO348; clear BK342; clear BK343; clear HB; have HO348 := n0_; have BK342 := n1_; have BK343 := n2_; have HB := n3_; clear n0_ n1_ n2_ n3_; (try clear hb); (try clear hb2); (try clear hk); (try clear hi)) | ((with_reducible refine gate_dst (N:=8) rfl ?_); refine box_event ?hg (N:=8) ?hd (cs := #[.int .i64 0,.int .i64 0,.int .i64 0,.string (⟨#[]⟩ : ByteArray)]) (t:=39) ?hr ?_; (case hd => rfl); (case hg => rfl); (case hr => first | (go_simp; done) | (go_simp; rfl)); intro gb355 hg w18 hbox hb; have n0_ := Aside0.mk (Kd.R_below (rA HO348.out) hb); have n1_ := Aside0.mk (blk_below (g:=gb342) (o:=.cells #[.int .i64 a0_0,.int .i64 a0_1,.slice A0_2 l0_2.length c0_2,.slice A0_3 l0_3.length c0_3,.int .i64 a0_4,.int .i64 a0_5,.int .i64 a0_6,.int .i64 a0_7,.int .i64 a0_8,.int .i64 a0_9] 32 (0,0)) (kA BK342.out) hb); have n2_ := Aside0.mk (blk_below (g:=gb343) (o:=.cells #[.int .i64 0,.int .i64 0,.int .i64 0,.string (⟨#[]⟩ : ByteArray)] 39 (0,0)) (kA BK343.out) hb); have n3_ := Aside0.mk (below_step bA hb); have n4_ := Aside0.mk (hbox); have n5_ := Aside0.mk ((gw hg : w.heap.size ≤ gb355)); have n6_ := Aside0.mk ((gw hg : w.heap.size ≤ gb355)); have n7_ := Aside0.mk ((by rw [hg]; exact Nat.ne_of_lt (blk_lt (g:=gb342) (o:=.cells #[.int .i64 a0_0,.int .i64 a0_1,.slice A0_2 l0_2.length c0_2,.slice A0_3 l0_3.length c0_3,.int .i64 a0_4,.int .i64 a0_5,.int .i64 a0_6,.int .i64 a0_7,.int .i64 a0_8,.int .i64 a0_9] 32 (0,0)) (kA BK342.out)) : gb342 ≠ gb355)); have n8_ := Aside0.mk ((by rw [hg]; exact Nat.ne_of_gt (blk_lt (g:=gb342) (o:=.cells #[.int .i64 a0_0,.int .i64 a0_1,.slice A0_2 l0_2.length c0_2,.slice A0_3 l0_3.length c0_3,.int .i64 a0_4,.int .i64 a0_5,.int .i64 a0_6,.int .i64 a0_7,.int .i64 a0_8,.int .i64 a0_9] 32 (0,0)) (kA BK342.out)) : gb355 ≠ gb342)); have n9_ := Aside0.mk ((by rw [hg]; exact Nat.ne_of_lt (blk_lt (g:=gb343) (o:=.cells #[.int .i64 0,.int .i64 0,.int .i64 0,.string (⟨#[]⟩ : ByteArray)] 39 (0,0)) (kA BK343.out)) : gb343 ≠ gb355)); have n10_ := Aside0.mk ((by rw [hg]; exact Nat.ne_of_gt (blk_lt (g:=gb343) (o:=.cells #[.int .i64 0,.int .i64 0,.int .i64 0,.string (⟨#[]⟩ : ByteArray)] 39 (0,0)) (kA BK343.out)) : gb355 ≠ gb343)); clear HO348; clear BK342; clear BK343; clear HB; have HO348 := n0_; have BK342 := n1_; have BK343 := n2_; have HB := n3_; have BK355 := n4_; have GW355 := n5_; have GE355 := n6_; have NB342_355 := n7_; have NB355_342 := n8_; have NB343_355 := n9_; have NB355_343 := n10_; clear n0_ n1_ n2_ n3_ n4_ n5_ n6_ n7_ n8_ n9_ n10_; clear hb hbox hg; have hnb19 := NB355_342.out; have hnc19 := NB342_355.out; have hnb20 := NB355_343.out; have hnc20 := NB343_355.out; obtain ⟨hcz21_0,hcz21_1,hcz21_2,hcz21_3⟩ := cl4 BK355.out; obtain ⟨hfz21_0,hfz21_1,hfz21_2,hfz21_3⟩ := fz4 BK355.out; obtain ⟨hcz22_0,hcz22_1,hcz22_2,hcz22_3⟩ := cl4 BK343.out; obtain ⟨hfz22_0,hfz22_1,hfz22_2,hfz22_3⟩ := fz4 BK343.out))
  refine bodyPost_ret (results_ctt rfl _ _ gb343 39 #[.int .i64 t350,.int .i64 t351,.int .i64 t352,.string t353] (0,0) _ rfl (by (with_reducible repeat (first | refine blk_drewN ?_ _ | refine blk_drew ?_ | refine blk_alloc ?_ _)); refine blk_put (cs := #[.int .i64 t350,.int .i64 t351,.int .i64 t352,.string (⟨#[]⟩ : ByteArray)]) ?_ 3 _ rfl; (with_reducible repeat (first | refine blk_drewN ?_ _ | refine blk_drew ?_ | refine blk_alloc ?_ _)); refine blk_put (cs := #[.int .i64 t350,.int .i64 t351,.int .i64 0,.string (⟨#[]⟩ : ByteArray)]) ?_ 2 _ rfl; (with_reducible repeat (first | refine blk_drewN ?_ _ | refine blk_drew ?_ | refine blk_alloc ?_ _)); refine blk_put (cs := #[.int .i64 t350,.int .i64 0,.int .i64 0,.string (⟨#[]⟩ : ByteArray)]) ?_ 1 _ rfl; (with_reducible repeat (first | refine blk_drewN ?_ _ | refine blk_drew ?_ | refine blk_alloc ?_ _)); refine blk_put (cs := #[.int .i64 0,.int .i64 0,.int .i64 0,.string (⟨#[]⟩ : ByteArray)]) ?_ 0 _ rfl; (with_reducible repeat (first | refine blk_drewN ?_ _ | refine blk_drew ?_ | refine blk_alloc ?_ _)); refine blk_far ?_ NB343_355.out _; (with_reducible repeat (first | refine blk_drewN ?_ _ | refine blk_drew ?_ | refine blk_alloc ?_ _)); refine blk_far ?_ NB343_355.out _; (with_reducible repeat (first | refine blk_drewN ?_ _ | refine blk_drew ?_ | refine blk_alloc ?_ _)); refine blk_far ?_ NB343_355.out _; (with_reducible repeat (first | refine blk_drewN ?_ _ | refine blk_drew ?_ | refine blk_alloc ?_ _)); refine blk_far ?_ NB343_355.out _; (with_reducible repeat (first | refine blk_drewN ?_ _ | refine blk_drew ?_ | refine blk_alloc ?_ _)); exact BK343.out) Tryd.underlying39 rfl (by kernel_rfl)) rfl ?_
  exact ⟨by first | rfl | (simp [errW_none,errW_some] <;> rfl) | (simp [*,errW_none,errW_some] <;> rfl),bA⟩
 ·rw [if_neg c6] at H
  have c6b0 : (t349 == 0) = false := beq_eq_false_iff_ne.mpr c6
  have c6b1 : (t349 != 0) = true := bne_iff_ne.mpr c6
  simp only [Option.some.injEq,Prod.mk.injEq] at H
  obtain ⟨rfl,rfl,rfl,rfl,rfl,rfl⟩ := H
  go_enter Tryd.func14,Tryd.ntmps14
  go_wp2_with (first | ((with_reducible refine gate_dst (N:=2) rfl ?_); refine box_event ?hg (N:=2) ?hd (cs := #[.int .i64 a0_0,.int .i64 a0_1,.slice A0_2 l0_2.length c0_2,.slice A0_3 l0_3.length c0_3,.int .i64 a0_4,.int .i64 a0_5,.int .i64 a0_6,.int .i64 a0_7,.int .i64 a0_8,.int .i64 a0_9]) (t:=32) ?hr ?_; (case hd => rfl); (case hg => rfl); (case hr => first | (go_simp; done) | (go_simp; rfl)); intro gb342 hg w23 hbox hb; have n0_ := Aside0.mk (below_step bA hb); have n1_ := Aside0.mk (hbox); have n2_ := Aside0.mk ((gw hg : w.heap.size ≤ gb342)); have n3_ := Aside0.mk ((gw hg : w.heap.size ≤ gb342)); clear HB; have HB := n0_; have BK342 := n1_; have GW342 := n2_; have GE342 := n3_; clear n0_ n1_ n2_ n3_; clear hb hbox hg) | ((with_reducible refine gate_dst (N:=4) rfl ?_); refine box_event ?hg (N:=4) ?hd (cs := #[.int .i64 0,.int .i64 0,.int .i64 0,.string (⟨#[]⟩ : ByteArray)]) (t:=39) ?hr ?_; (case hd => rfl); (case hg => rfl); (case hr => first | (go_simp; done) | (go_simp; rfl)); intro gb343 hg w24 hbox hb; have n0_ := Aside0.mk (blk_below (g:=gb342) (o:=.cells #[.int .i64 a0_0,.int .i64 a0_1,.slice A0_2 l0_2.length c0_2,.slice A0_3 l0_3.length c0_3,.int .i64 a0_4,.int .i64 a0_5,.int .i64 a0_6,.int .i64 a0_7,.int .i64 a0_8,.int .i64 a0_9] 32 (0,0)) (kA BK342.out) hb); have n1_ := Aside0.mk (below_step bA hb); have n2_ := Aside0.mk (hbox); have n3_ := Aside0.mk ((gw hg : w.heap.size ≤ gb343)); have n4_ := Aside0.mk ((gw hg : w.heap.size ≤ gb343)); have n5_ := Aside0.mk ((by rw [hg]; exact Nat.ne_of_lt (blk_lt (g:=gb342) (o:=.cells #[.int .i64 a0_0,.int .i64 a0_1,.slice A0_2 l0_2.length c0_2,.slice A0_3 l0_3.length c0_3,.int .i64 a0_4,.int .i64 a0_5,.int .i64 a0_6,.int .i64 a0_7,.int .i64 a0_8,.int .i64 a0_9] 32 (0,0)) (kA BK342.out)) : gb342 ≠ gb343)); have n6_ := Aside0.mk ((by rw [hg]; exact Nat.ne_of_gt (blk_lt (g:=gb342) (o:=.cells #[.int .i64 a0_0,.int .i64 a0_1,.slice A0_2 l0_2.length c0_2,.slice A0_3 l0_3.length c0_3,.int .i64 a0_4,.int .i64 a0_5,.int .i64 a0_6,.int .i64 a0_7,.int .i64 a0_8,.int .i64 a0_9] 32 (0,0)) (kA BK342.out)) : gb343 ≠ gb342)); clear BK342; clear HB; have BK342 := n0_; have HB := n1_; have BK343 := n2_; have GW343 := n3_; have GE343 := n4_; have NB342_343 := n5_; have NB343_342 := n6_; clear n0_ n1_ n2_ n3_ n4_ n5_ n6_; clear hb hbox hg; have hnb25 := NB342_343.out; have hnc25 := NB343_342.out; obtain ⟨hcz26_0,hcz26_1,hcz26_2,hcz26_3,hcz26_4,hcz26_5,hcz26_6,hcz26_7,hcz26_8,hcz26_9⟩ := cl10 BK342.out; obtain ⟨hfz26_0,hfz26_1,hfz26_2,hfz26_3,hfz26_4,hfz26_5,hfz26_6,hfz26_7,hfz26_8,hfz26_9⟩ := fz10 BK342.out) | ((with_reducible refine gate_callee (f:=9) rfl ?_); refine goesL_ (some 11) rfl rfl Tryd.func9 (by kernel_rfl) rfl #[.agg #[.int .i64 a0_0,.int .i64 a0_1,.slice A0_2 l0_2.length c0_2,.slice A0_3 l0_3.length c0_3,.int .i64 a0_4,.int .i64 a0_5,.int .i64 a0_6,.int .i64 a0_7,.int .i64 a0_8,.int .i64 a0_9]] rfl mA ?_; (with_reducible refine (impl_StateOK.calls k a0_0 a0_1 _ _ l0_2 _ _ l0_3 a0_4 a0_5 a0_6 a0_7 a0_8 a0_9 t344 _ ?side1 ?side2 ?side3 ?side4 ?side5 A3.out).mono ?_); (case side1 => exact HV.out.below bA); (case side2 => repeat (first | exact (Kd.C_below HR0_2.out HB.out) | (with_reducible refine Kd.C_alloc ?_ _) | (with_reducible refine Kd.C_drewN ?_ _) | (with_reducible refine Kd.C_drew ?_))); (case side3 => exact HC0_2.out); (case side4 => repeat (first | exact (Kd.C_below HR0_3.out HB.out) | (with_reducible refine Kd.C_alloc ?_ _) | (with_reducible refine Kd.C_drewN ?_ _) | (with_reducible refine Kd.C_drew ?_))); (case side5 => exact HC0_3.out); rintro e w27 ⟨rfl,hb⟩; refine ⟨_,rfl,?_⟩; have n0_ := Aside0.mk (blk_below (g:=gb342) (o:=.cells #[.int .i64 a0_0,.int .i64 a0_1,.slice A0_2 l0_2.length c0_2,.slice A0_3 l0_3.length c0_3,.int .i64 a0_4,.int .i64 a0_5,.int .i64 a0_6,.int .i64 a0_7,.int .i64 a0_8,.int .i64 a0_9] 32 (0,0)) (kA BK342.out) hb); have n1_ := Aside0.mk (blk_below (g:=gb343) (o:=.cells #[.int .i64 0,.int .i64 0,.int .i64 0,.string (⟨#[]⟩ : ByteArray)] 39 (0,0)) (kA BK343.out) hb); have n2_ := Aside0.mk (below_step bA hb); clear BK342; clear BK343; clear HB; have BK342 := n0_; have BK343 := n1_; have HB := n2_; clear n0_ n1_ n2_; (try clear hb); (try clear hb2); (try clear hk); (try clear hi)) | ((with_reducible refine gate_callee (f:=39) rfl ?_); refine goesL_ (some 16) rfl rfl Tryd.func39 (by kernel_rfl) rfl #[.int .i64 a1] rfl mA ?_; (with_reducible refine (impl_isNow.calls a1 t345 _ A4.out).mono ?_); rintro e w' ⟨rfl,⟨nd,rfl⟩⟩; refine ⟨_,rfl,?_⟩; (try (rw [drewN_self w27]; generalize hq_ : World.drewN w27 _ = w27; have n0_ : Aside0 (w27.heap[gb342]? = some (.cells #[.int .i64 a0_0,.int .i64 a0_1,.slice A0_2 l0_2.length c0_2,.slice A0_3 l0_3.length c0_3,.int .i64 a0_4,.int .i64 a0_5,.int .i64 a0_6,.int .i64 a0_7,.int .i64 a0_8,.int .i64 a0_9] 32 (0,0))) := ⟨by rw [← hq_]; exact (kA BK342.out)⟩; have n1_ : Aside0 (w27.heap[gb343]? = some (.cells #[.int .i64 0,.int .i64 0,.int .i64 0,.string (⟨#[]⟩ : ByteArray)] 39 (0,0))) := ⟨by rw [← hq_]; exact (kA BK343.out)⟩; have n2_ : Aside0 (Below w.heap.size w w27) := ⟨by rw [← hq_]; exact bA⟩; clear BK342 BK343 HB hq_; have BK342 := n0_; have BK343 := n1_; have HB := n2_; clear n0_ n1_ n2_))) | ((with_reducible refine gate_dst (N:=20) rfl ?_); refine Kd.R_lit kAny _ 20 ?hg (N:=20) ?hd (xs := ([anyB (!t344),anyI 1,anyB (!t345),anyI 4] : List AnyV)) (inner := [.iface 4 (.bool (!t344)),.iface 3 (.int .i64 1),.iface 4 (.bool (!t345)),.iface 3 (.int .i64 4)]) (ok := fun _ => True) (okp := fun _ => True) ?hr ?hp (fun _ hk => hk) trivial (Below.refl _ _) (Nat.le_refl _) (by simp) ?_; (case hd => rfl); (case hg => rfl); (case hr => first | (go_simp; done) | (go_simp; rfl)); (case hp => exact (Reps.one (show Kd.M kAny _ _ _ (anyB (!t344)) [.iface 4 (.bool (!t344))] from rfl) (Reps.one (show Kd.M kAny _ _ _ (anyI 1) [.iface 3 (.int .i64 1)] from rfl) (Reps.one (show Kd.M kAny _ _ _ (anyB (!t345)) [.iface 4 (.bool (!t345))] from rfl) (Reps.one (show Kd.M kAny _ _ _ (anyI 4) [.iface 3 (.int .i64 4)] from rfl) (Reps.none _ _)))))); intro v347 w28 ho29 hb hg_ hnew_; clear hg_ hnew_; (first | rw [← Ny346.out] at ho29 | (simp only [Int.reduceToNat] at ho29; rw [← Ny346.out] at ho29)); have n0_ := Aside0.mk (Kd.R_lower ho29 (below_size bA)); have n1_ := Aside0.mk (blk_below (g:=gb342) (o:=.cells #[.int .i64 a0_0,.int .i64 a0_1,.slice A0_2 l0_2.length c0_2,.slice A0_3 l0_3.length c0_3,.int .i64 a0_4,.int .i64 a0_5,.int .i64 a0_6,.int .i64 a0_7,.int .i64 a0_8,.int .i64 a0_9] 32 (0,0)) (kA BK342.out) hb); have n2_ := Aside0.mk (blk_below (g:=gb343) (o:=.cells #[.int .i64 0,.int .i64 0,.int .i64 0,.string (⟨#[]⟩ : ByteArray)] 39 (0,0)) (kA BK343.out) hb); have n3_ := Aside0.mk (below_step bA hb); clear BK342; clear BK343; clear HB; have HO348 := n0_; have BK342 := n1_; have BK343 := n2_; have HB := n3_; clear n0_ n1_ n2_ n3_; clear hb ho29; obtain ⟨Ao30,co30,eo30⟩ := Kd.R_slice HO348.out; subst eo30) | ((with_reducible refine gate_callee (f:=38) rfl ?_); refine goesL_ (some 21) rfl rfl Tryd.func38 (by kernel_rfl) rfl #[.slice Ao30 y346.length co30] rfl mA ?_; (with_reducible refine (impl_first.calls k _ _ y346 t349 _ ?side1 ?side2 A5.out).mono ?_); (case side1 => repeat (first | exact (Kd.R_reads' HO348.out).2.2 | (with_reducible refine Kd.C_alloc ?_ _) | (with_reducible refine Kd.C_drewN ?_ _) | (with_reducible refine Kd.C_drew ?_))); (case side2 => exact (Kd.R_reads' HO348.out).2.1); rintro e w' ⟨rfl,⟨nd,rfl⟩⟩; refine ⟨_,rfl,?_⟩; (try (rw [drewN_self w28]; generalize hq_ : World.drewN w28 _ = w28; have n0_ : Aside0 (Kd.R kAny 20 w28 w.heap.size (fun _ => True) (.slice Ao30 y346.length co30) y346) := ⟨by rw [← hq_]; exact (rA HO348.out)⟩; have n1_ : Aside0 (w28.heap[gb342]? = some (.cells #[.int .i64 a0_0,.int .i64 a0_1,.slice A0_2 l0_2.length c0_2,.slice A0_3 l0_3.length c0_3,.int .i64 a0_4,.int .i64 a0_5,.int .i64 a0_6,.int .i64 a0_7,.int .i64 a0_8,.int .i64 a0_9] 32 (0,0))) := ⟨by rw [← hq_]; exact (kA BK342.out)⟩; have n2_ : Aside0 (w28.heap[gb343]? = some (.cells #[.int .i64 0,.int .i64 0,.int .i64 0,.string (⟨#[]⟩ : ByteArray)] 39 (0,0))) := ⟨by rw [← hq_]; exact (kA BK343.out)⟩; have n3_ : Aside0 (Below w.heap.size w w28) := ⟨by rw [← hq_]; exact bA⟩; clear HO348 BK342 BK343 HB hq_; have HO348 := n0_; have BK342 := n1_; have BK343 := n2_; have HB := n3_; clear n0_ n1_ n2_ n3_)); obtain ⟨hcz31_0,hcz31_1,hcz31_2,hcz31_3⟩ := cl4 BK343.out; obtain ⟨hfz31_0,hfz31_1,hfz31_2,hfz31_3⟩ := fz4 BK343.out))
  refine bodyPost_ret (results_ctt rfl _ _ gb343 39 #[.int .i64 0,.int .i64 0,.int .i64 0,.string (⟨#[]⟩ : ByteArray)] (0,0) _ rfl (by (with_reducible repeat (first | refine blk_drewN ?_ _ | refine blk_drew ?_ | refine blk_alloc ?_ _)); refine blk_put (cs := #[.int .i64 0,.int .i64 0,.int .i64 0,.string (⟨#[]⟩ : ByteArray)]) ?_ 3 _ rfl; (with_reducible repeat (first | refine blk_drewN ?_ _ | refine blk_drew ?_ | refine blk_alloc ?_ _)); refine blk_put (cs := #[.int .i64 0,.int .i64 0,.int .i64 0,.string (⟨#[]⟩ : ByteArray)]) ?_ 2 _ rfl; (with_reducible repeat (first | refine blk_drewN ?_ _ | refine blk_drew ?_ | refine blk_alloc ?_ _)); refine blk_put (cs := #[.int .i64 0,.int .i64 0,.int .i64 0,.string (⟨#[]⟩ : ByteArray)]) ?_ 1 _ rfl; (with_reducible repeat (first | refine blk_drewN ?_ _ | refine blk_drew ?_ | refine blk_alloc ?_ _)); refine blk_put (cs := #[.int .i64 0,.int .i64 0,.int .i64 0,.string (⟨#[]⟩ : ByteArray)]) ?_ 0 _ rfl; (with_reducible repeat (first | refine blk_drewN ?_ _ | refine blk_drew ?_ | refine blk_alloc ?_ _)); exact BK343.out) Tryd.underlying39 rfl (by kernel_rfl)) rfl ?_
  exact ⟨by first | rfl | (simp [errW_none,errW_some] <;> rfl) | (simp [*,errW_none,errW_some] <;> rfl),bA⟩

/-! ### laws_FnExactExpiredEntry: function 5 -/
def laws_FnExactExpiredEntry.j0 : Nat → Bool → Int → Int → List (S75) → List (S77) → Int → Int → Int → Int → Int → Int → Int → Int → List (S39) → List (S55) → Int → Int → Int → Int → Int → Int → Option (Bool)
 | 0,_,_,_,_,_,_,_,_,_,_,_,_,_,_,_,_,_,_,_,_,_ => none
 | k + 1,x48,x357000,x357001,x357002,x357003,x357004,x357005,x357006,x357007,x357008,x357009,x394000,x394001,x394002,x394003,x394004,x394005,x394006,x394007,x394008,x394009 => if x48 = true then (none) else ((laws_toState.f k x357000 x357001 x357002 x357003 x357004 x357005 x357006 x357007 x357008 x357009).bind fun bt402 => ((laws_eqState.f k x394000 x394001 x394002 x394003 x394004 x394005 x394006 x394007 x394008 x394009 bt402.1 bt402.2.1 bt402.2.2.1 bt402.2.2.2.1 bt402.2.2.2.2.1 bt402.2.2.2.2.2.1 bt402.2.2.2.2.2.2.1 bt402.2.2.2.2.2.2.2.1 bt402.2.2.2.2.2.2.2.2.1 bt402.2.2.2.2.2.2.2.2.2).bind fun t416 => (if t416 = true then (some true) else (none))))
def laws_FnExactExpiredEntry.f (k : Nat) (a0_0 : Int) (a0_1 : Int) (l0_2 : List (S75)) (l0_3 : List (S77)) (a0_4 : Int) (a0_5 : Int) (a0_6 : Int) (a0_7 : Int) (a0_8 : Int) (a0_9 : Int) (a1 : Int) : Option (Bool) := (laws_szState.f k a0_0 a0_1 l0_2 l0_3 a0_4 a0_5 a0_6 a0_7 a0_8 a0_9 1048576).bind fun t357 => (if t357 < 0 then (some true) else ((laws_toState.f k a0_0 a0_1 l0_2 l0_3 a0_4 a0_5 a0_6 a0_7 a0_8 a0_9).bind fun bt358 => ((spec_ExpiredEntry.f k bt358.1 bt358.2.1 bt358.2.2.1 bt358.2.2.2.1 bt358.2.2.2.2.1 bt358.2.2.2.2.2.1 bt358.2.2.2.2.2.2.1 bt358.2.2.2.2.2.2.2.1 bt358.2.2.2.2.2.2.2.2.1 bt358.2.2.2.2.2.2.2.2.2 a1).bind fun bt372 => ((laws_toState.f k a0_0 a0_1 l0_2 l0_3 a0_4 a0_5 a0_6 a0_7 a0_8 a0_9).bind fun bt379 => ((impl_ExpiredEntry.f k bt379.1 bt379.2.1 bt379.2.2.1 bt379.2.2.2.1 bt379.2.2.2.2.1 bt379.2.2.2.2.2.1 bt379.2.2.2.2.2.2.1 bt379.2.2.2.2.2.2.2.1 bt379.2.2.2.2.2.2.2.2.1 bt379.2.2.2.2.2.2.2.2.2 a1).bind fun bt394 => ((laws_eqEntry.f bt394.1 bt394.2.1 bt394.2.2.1 bt394.2.2.2.1 bt372.1 bt372.2.1 bt372.2.2.1 bt372.2.2.2.1).bind fun t401 => (if t401 = true then (if (bt394.2.2.2.2.1 != bt372.2.2.2.2.1) = true then (laws_FnExactExpiredEntry.j0 k true a0_0 a0_1 l0_2 l0_3 a0_4 a0_5 a0_6 a0_7 a0_8 a0_9 bt379.1 bt379.2.1 bt379.2.2.1 bt379.2.2.2.1 bt379.2.2.2.2.1 bt379.2.2.2.2.2.1 bt379.2.2.2.2.2.2.1 bt379.2.2.2.2.2.2.2.1 bt379.2.2.2.2.2.2.2.2.1 bt379.2.2.2.2.2.2.2.2.2) else (laws_FnExactExpiredEntry.j0 k (bt394.2.2.2.2.2 != bt372.2.2.2.2.2) a0_0 a0_1 l0_2 l0_3 a0_4 a0_5 a0_6 a0_7 a0_8 a0_9 bt379.1 bt379.2.1 bt379.2.2.1 bt379.2.2.2.1 bt379.2.2.2.2.1 bt379.2.2.2.2.2.1 bt379.2.2.2.2.2.2.1 bt379.2.2.2.2.2.2.2.1 bt379.2.2.2.2.2.2.2.2.1 bt379.2.2.2.2.2.2.2.2.2)) else (laws_FnExactExpiredEntry.j0 k true a0_0 a0_1 l0_2 l0_3 a0_4 a0_5 a0_6 a0_7 a0_8 a0_9 bt379.1 bt379.2.1 bt379.2.2.1 bt379.2.2.2.1 bt379.2.2.2.2.1 bt379.2.2.2.2.2.1 bt379.2.2.2.2.2.2.1 bt379.2.2.2.2.2.2.2.1 bt379.2.2.2.2.2.2.2.2.1 bt379.2.2.2.2.2.2.2.2.2))))))))
theorem laws_FnExactExpiredEntry.mono_l : ∀ k,(∀ y0 y1 y2 y3 y4 y5 y6 y7 y8 y9 y10 y11 y12 y13 y14 y15 y16 y17 y18 y19 y20,LeO (laws_FnExactExpiredEntry.j0 k y0 y1 y2 y3 y4 y5 y6 y7 y8 y9 y10 y11 y12 y13 y14 y15 y16 y17 y18 y19 y20) (laws_FnExactExpiredEntry.j0 (k + 1) y0 y1 y2 y3 y4 y5 y6 y7 y8 y9 y10 y11 y12 y13 y14 y15 y16 y17 y18 y19 y20))
 | 0 => fun _ _ _ _ _ _ _ _ _ _ _ _ _ _ _ _ _ _ _ _ _ r h => by simp [laws_FnExactExpiredEntry.j0] at h
 | k + 1 => by
  have ih0 := laws_FnExactExpiredEntry.mono_l k
  ·intro y0 y1 y2 y3 y4 y5 y6 y7 y8 y9 y10 y11 y12 y13 y14 y15 y16 y17 y18 y19 y20
   unfold laws_FnExactExpiredEntry.j0
   repeat' first
   | (with_reducible exact ih0 _ _ _ _ _ _ _ _ _ _ _ _ _ _ _ _ _ _ _ _ _)
   | (with_reducible exact impl_ExpiredEntry.mono _ _ _ _ _ _ _ _ _ _ _ _)
   | (with_reducible exact laws_eqState.mono _ _ _ _ _ _ _ _ _ _ _ _ _ _ _ _ _ _ _ _ _)
   | (with_reducible exact laws_szState.mono _ _ _ _ _ _ _ _ _ _ _ _)
   | (with_reducible exact laws_toState.mono _ _ _ _ _ _ _ _ _ _ _)
   | (with_reducible exact spec_ExpiredEntry.mono _ _ _ _ _ _ _ _ _ _ _ _)
   | (with_reducible exact LeO.refl _)
   | (with_reducible exact LeO.none _)
   | (with_reducible refine LeO.ite ?_ ?_)
   | (with_reducible refine LeO.bind ?_ (fun _ => ?_))
   | exact ih0 _ _ _ _ _ _ _ _ _ _ _ _ _ _ _ _ _ _ _ _ _
   | exact impl_ExpiredEntry.mono _ _ _ _ _ _ _ _ _ _ _ _
   | exact laws_eqState.mono _ _ _ _ _ _ _ _ _ _ _ _ _ _ _ _ _ _ _ _ _
   | exact laws_szState.mono _ _ _ _ _ _ _ _ _ _ _ _
   | exact laws_toState.mono _ _ _ _ _ _ _ _ _ _ _
   | exact spec_ExpiredEntry.mono _ _ _ _ _ _ _ _ _ _ _ _
   | exact LeO.none _
   | refine LeO.ite ?_ ?_
   | refine LeO.bind ?_ (fun _ => ?_)
theorem laws_FnExactExpiredEntry.mono : ∀ a0 a1 a2 a3 a4 a5 a6 a7 a8 a9 a10 k,LeO (laws_FnExactExpiredEntry.f k a0 a1 a2 a3 a4 a5 a6 a7 a8 a9 a10) (laws_FnExactExpiredEntry.f (k + 1) a0 a1 a2 a3 a4 a5 a6 a7 a8 a9 a10) := by
 intro a0 a1 a2 a3 a4 a5 a6 a7 a8 a9 a10 k
 have ih0 := laws_FnExactExpiredEntry.mono_l k
 unfold laws_FnExactExpiredEntry.f
 repeat' first
   | (with_reducible exact ih0 _ _ _ _ _ _ _ _ _ _ _ _ _ _ _ _ _ _ _ _ _)
   | (with_reducible exact impl_ExpiredEntry.mono _ _ _ _ _ _ _ _ _ _ _ _)
   | (with_reducible exact laws_eqState.mono _ _ _ _ _ _ _ _ _ _ _ _ _ _ _ _ _ _ _ _ _)
   | (with_reducible exact laws_szState.mono _ _ _ _ _ _ _ _ _ _ _ _)
   | (with_reducible exact laws_toState.mono _ _ _ _ _ _ _ _ _ _ _)
   | (with_reducible exact spec_ExpiredEntry.mono _ _ _ _ _ _ _ _ _ _ _ _)
   | (with_reducible exact LeO.refl _)
   | (with_reducible exact LeO.none _)
   | (with_reducible refine LeO.ite ?_ ?_)
   | (with_reducible refine LeO.bind ?_ (fun _ => ?_))
   | exact ih0 _ _ _ _ _ _ _ _ _ _ _ _ _ _ _ _ _ _ _ _ _
   | exact impl_ExpiredEntry.mono _ _ _ _ _ _ _ _ _ _ _ _
   | exact laws_eqState.mono _ _ _ _ _ _ _ _ _ _ _ _ _ _ _ _ _ _ _ _ _
   | exact laws_szState.mono _ _ _ _ _ _ _ _ _ _ _ _
   | exact laws_toState.mono _ _ _ _ _ _ _ _ _ _ _
   | exact spec_ExpiredEntry.mono _ _ _ _ _ _ _ _ _ _ _ _
   | exact LeO.none _
   | refine LeO.ite ?_ ?_
   | refine LeO.bind ?_ (fun _ => ?_)
set_option maxHeartbeats 8000000 in
set_option maxRecDepth 100000 in
theorem laws_FnExactExpiredEntry.calls (k : Nat) (a0_0 : Int) (a0_1 : Int) (A0_2 : Option Addr) (c0_2 : Nat) (l0_2 : List (S75)) (A0_3 : Option Addr) (c0_3 : Nat) (l0_3 : List (S77)) (a0_4 : Int) (a0_5 : Int) (a0_6 : Int) (a0_7 : Int) (a0_8 : Int) (a0_9 : Int) (a1 : Int) (r : Bool) (w : World) (hV : Vars w) (hr0_2 : Kd.C k75 w A0_2 l0_2.length l0_2) (hc0_2 : l0_2.length ≤ c0_2) (hr0_3 : Kd.C k77 w A0_3 l0_3.length l0_3) (hc0_3 : l0_3.length ≤ c0_3) (h : laws_FnExactExpiredEntry.f k a0_0 a0_1 l0_2 l0_3 a0_4 a0_5 a0_6 a0_7 a0_8 a0_9 a1 = some r) :
  Calls Tryd.prog 5 #[.agg #[.int .i64 a0_0,.int .i64 a0_1,.slice A0_2 l0_2.length c0_2,.slice A0_3 l0_3.length c0_3,.int .i64 a0_4,.int .i64 a0_5,.int .i64 a0_6,.int .i64 a0_7,.int .i64 a0_8,.int .i64 a0_9],.int .i64 a1] w fun e w' => e = .returned (.bool r) ∧ Below w.heap.size w w' := by
 have hu26 := Tryd.underlying26
 have hu39 := Tryd.underlying39
 have hu32 := Tryd.underlying32
 have HR0_2 := Aside0.mk hr0_2
 have HC0_2 := Aside0.mk hc0_2
 clear hr0_2 hc0_2
 have HR0_3 := Aside0.mk hr0_3
 have HC0_3 := Aside0.mk hc0_3
 clear hr0_3 hc0_3
 have HV := Aside0.mk hV
 clear hV
 have HB := Aside0.mk (Below.refl w.heap.size w)
 have H : ((laws_szState.f k a0_0 a0_1 l0_2 l0_3 a0_4 a0_5 a0_6 a0_7 a0_8 a0_9 1048576).bind fun t357 => (if t357 < 0 then (some true) else ((laws_toState.f k a0_0 a0_1 l0_2 l0_3 a0_4 a0_5 a0_6 a0_7 a0_8 a0_9).bind fun bt358 => ((spec_ExpiredEntry.f k bt358.1 bt358.2.1 bt358.2.2.1 bt358.2.2.2.1 bt358.2.2.2.2.1 bt358.2.2.2.2.2.1 bt358.2.2.2.2.2.2.1 bt358.2.2.2.2.2.2.2.1 bt358.2.2.2.2.2.2.2.2.1 bt358.2.2.2.2.2.2.2.2.2 a1).bind fun bt372 => ((laws_toState.f k a0_0 a0_1 l0_2 l0_3 a0_4 a0_5 a0_6 a0_7 a0_8 a0_9).bind fun bt379 => ((impl_ExpiredEntry.f k bt379.1 bt379.2.1 bt379.2.2.1 bt379.2.2.2.1 bt379.2.2.2.2.1 bt379.2.2.2.2.2.1 bt379.2.2.2.2.2.2.1 bt379.2.2.2.2.2.2.2.1 bt379.2.2.2.2.2.2.2.2.1 bt379.2.2.2.2.2.2.2.2.2 a1).bind fun bt394 => ((laws_eqEntry.f bt394.1 bt394.2.1 bt394.2.2.1 bt394.2.2.2.1 bt372.1 bt372.2.1 bt372.2.2.1 bt372.2.2.2.1).bind fun t401 => (if t401 = true then (if (bt394.2.2.2.2.1 != bt372.2.2.2.2.1) = true then (laws_FnExactExpiredEntry.j0 k true a0_0 a0_1 l0_2 l0_3 a0_4 a0_5 a0_6 a0_7 a0_8 a0_9 bt379.1 bt379.2.1 bt379.2.2.1 bt379.2.2.2.1 bt379.2.2.2.2.1 bt379.2.2.2.2.2.1 bt379.2.2.2.2.2.2.1 bt379.2.2.2.2.2.2.2.1 bt379.2.2.2.2.2.2.2.2.1 bt379.2.2.2.2.2.2.2.2.2) else (laws_FnExactExpiredEntry.j0 k (bt394.2.2.2.2.2 != bt372.2.2.2.2.2) a0_0 a0_1 l0_2 l0_3 a0_4 a0_5 a0_6 a0_7 a0_8 a0_9 bt379.1 bt379.2.1 bt379.2.2.1 bt379.2.2.2.1 bt379.2.2.2.2.1 bt379.2.2.2.2.2.1 bt379.2.2.2.2.2.2.1 bt379.2.2.2.2.2.2.2.1 bt379.2.2.2.2.2.2.2.2.1 bt379.2.2.2.2.2.2.2.2.2)) else (laws_FnExactExpiredEntry.j0 k true a0_0 a0_1 l0_2 l0_3 a0_4 a0_5 a0_6 a0_7 a0_8 a0_9 bt379.1 bt379.2.1 bt379.2.2.1 bt379.2.2.2.1 bt379.2.2.2.2.1 bt379.2.2.2.2.2.1 bt379.2.2.2.2.2.2.1 bt379.2.2.2.2.2.2.2.1 bt379.2.2.2.2.2.2.2.2.1 bt379.2.2.2.2.2.2.2.2.2))))))))) = some r := h
 clear h
 replace H := Option.bind_eq_some_iff.mp H
 obtain ⟨t357,A30,H⟩ := H
 try dsimp only at H
 have A3 := Aside0.mk A30
 clear A30
 by_cases c4 : t357 < 0
 ·rw [if_pos c4] at H
  have c4b0 : decide (t357 < 0) = true := decide_eq_true c4
  clear c4
  obtain rfl := Option.some.inj H
  go_enter Tryd.func5,Tryd.ntmps5
  go_wp2_with (first | ((with_reducible refine gate_dst (N:=2) rfl ?_); refine box_event ?hg (N:=2) ?hd (cs := #[.int .i64 a0_0,.int .i64 a0_1,.slice A0_2 l0_2.length c0_2,.slice A0_3 l0_3.length c0_3,.int .i64 a0_4,.int .i64 a0_5,.int .i64 a0_6,.int .i64 a0_7,.int .i64 a0_8,.int .i64 a0_9]) (t:=26) ?hr ?_; (case hd => rfl); (case hg => rfl); (case hr => first | (go_simp; done) | (go_simp; rfl)); intro gb356 hg w5 hbox hb; have n0_ := Aside0.mk (below_step bA hb); have n1_ := Aside0.mk (hbox); have n2_ := Aside0.mk ((gw hg : w.heap.size ≤ gb356)); have n3_ := Aside0.mk ((gw hg : w.heap.size ≤ gb356)); clear HB; have HB := n0_; have BK356 := n1_; have GW356 := n2_; have GE356 := n3_; clear n0_ n1_ n2_ n3_; clear hb hbox hg; obtain ⟨hcz6_0,hcz6_1,hcz6_2,hcz6_3,hcz6_4,hcz6_5,hcz6_6,hcz6_7,hcz6_8,hcz6_9⟩ := cl10 BK356.out; obtain ⟨hfz6_0,hfz6_1,hfz6_2,hfz6_3,hfz6_4,hfz6_5,hfz6_6,hfz6_7,hfz6_8,hfz6_9⟩ := fz10 BK356.out) | ((with_reducible refine gate_callee (f:=6) rfl ?_); refine goesL_ (some 15) rfl rfl Tryd.func6 (by kernel_rfl) rfl #[.agg #[.int .i64 a0_0,.int .i64 a0_1,.slice A0_2 l0_2.length c0_2,.slice A0_3 l0_3.length c0_3,.int .i64 a0_4,.int .i64 a0_5,.int .i64 a0_6,.int .i64 a0_7,.int .i64 a0_8,.int .i64 a0_9],.int .i64 1048576] rfl mA ?_; (with_reducible refine (laws_szState.calls k a0_0 a0_1 _ _ l0_2 _ _ l0_3 a0_4 a0_5 a0_6 a0_7 a0_8 a0_9 1048576 t357 _ ?side1 ?side2 ?side3 ?side4 A3.out).mono ?_); (case side1 => repeat (first | exact (Kd.C_below HR0_2.out HB.out) | (with_reducible refine Kd.C_alloc ?_ _) | (with_reducible refine Kd.C_drewN ?_ _) | (with_reducible refine Kd.C_drew ?_))); (case side2 => exact HC0_2.out); (case side3 => repeat (first | exact (Kd.C_below HR0_3.out HB.out) | (with_reducible refine Kd.C_alloc ?_ _) | (with_reducible refine Kd.C_drewN ?_ _) | (with_reducible refine Kd.C_drew ?_))); (case side4 => exact HC0_3.out); rintro e w7 ⟨rfl,hb⟩; refine ⟨_,rfl,?_⟩; have n0_ := Aside0.mk (blk_below (g:=gb356) (o:=.cells #[.int .i64 a0_0,.int .i64 a0_1,.slice A0_2 l0_2.length c0_2,.slice A0_3 l0_3.length c0_3,.int .i64 a0_4,.int .i64 a0_5,.int .i64 a0_6,.int .i64 a0_7,.int .i64 a0_8,.int .i64 a0_9] 26 (0,0)) (kA BK356.out) hb); have n1_ := Aside0.mk (below_step bA hb); clear BK356; clear HB; have BK356 := n0_; have HB := n1_; clear n0_ n1_; (try clear hb); (try clear hb2); (try clear hk); (try clear hi)))
  go_ret
  exact ⟨by first | rfl | (simp [errW_none,errW_some] <;> rfl) | (simp [*,errW_none,errW_some] <;> rfl),bA⟩
 ·rw [if_neg c4] at H
  have c4b0 : decide (t357 < 0) = false := decide_eq_false c4
  clear c4
  replace H := Option.bind_eq_some_iff.mp H
  obtain ⟨⟨t358,t359,t360,t363,t366,t367,t368,t369,t370,t371⟩,A80,H⟩ := H
  try dsimp only at H
  have A8 := Aside0.mk A80
  clear A80
  replace H := Option.bind_eq_some_iff.mp H
  obtain ⟨⟨t372,t373,t374,t375,t376,t377⟩,A90,H⟩ := H
  try dsimp only at H
  have A9 := Aside0.mk A90
  clear A90
  replace H := Option.bind_eq_some_iff.mp H
  obtain ⟨⟨t379,t380,t381,t384,t387,t388,t389,t390,t391,t392⟩,A100,H⟩ := H
  try dsimp only at H
  have A10 := Aside0.mk A100
  clear A100
  replace H := Option.bind_eq_some_iff.mp H
  obtain ⟨⟨t394,t395,t396,t397,t398,t399⟩,A110,H⟩ := H
  try dsimp only at H
  have A11 := Aside0.mk A110
  clear A110
  have HC12 := Aside0.mk H
  clear H
  go_enter Tryd.func5,Tryd.ntmps5
  go_upto_region 8 with (first | ((with_reducible refine gate_dst (N:=2) rfl ?_); refine box_event ?hg (N:=2) ?hd (cs := #[.int .i64 a0_0,.int .i64 a0_1,.slice A0_2 l0_2.length c0_2,.slice A0_3 l0_3.length c0_3,.int .i64 a0_4,.int .i64 a0_5,.int .i64 a0_6,.int .i64 a0_7,.int .i64 a0_8,.int .i64 a0_9]) (t:=26) ?hr ?_; (case hd => rfl); (case hg => rfl); (case hr => first | (go_simp; done) | (go_simp; rfl)); intro gb356 hg w13 hbox hb; have n0_ := Aside0.mk (below_step bA hb); have n1_ := Aside0.mk (hbox); have n2_ := Aside0.mk ((gw hg : w.heap.size ≤ gb356)); have n3_ := Aside0.mk ((gw hg : w.heap.size ≤ gb356)); clear HB; have HB := n0_; have BK356 := n1_; have GW356 := n2_; have GE356 := n3_; clear n0_ n1_ n2_ n3_; clear hb hbox hg; obtain ⟨hcz14_0,hcz14_1,hcz14_2,hcz14_3,hcz14_4,hcz14_5,hcz14_6,hcz14_7,hcz14_8,hcz14_9⟩ := cl10 BK356.out; obtain ⟨hfz14_0,hfz14_1,hfz14_2,hfz14_3,hfz14_4,hfz14_5,hfz14_6,hfz14_7,hfz14_8,hfz14_9⟩ := fz10 BK356.out) | ((with_reducible refine gate_callee (f:=6) rfl ?_); refine goesL_ (some 15) rfl rfl Tryd.func6 (by kernel_rfl) rfl #[.agg #[.int .i64 a0_0,.int .i64 a0_1,.slice A0_2 l0_2.length c0_2,.slice A0_3 l0_3.length c0_3,.int .i64 a0_4,.int .i64 a0_5,.int .i64 a0_6,.int .i64 a0_7,.int .i64 a0_8,.int .i64 a0_9],.int .i64 1048576] rfl mA ?_; (with_reducible refine (laws_szState.calls k a0_0 a0_1 _ _ l0_2 _ _ l0_3 a0_4 a0_5 a0_6 a0_7 a0_8 a0_9 1048576 t357 _ ?side1 ?side2 ?side3 ?side4 A3.out).mono ?_); (case side1 => repeat (first | exact (Kd.C_below HR0_2.out HB.out) | (with_reducible refine Kd.C_alloc ?_ _) | (with_reducible refine Kd.C_drewN ?_ _) | (with_reducible refine Kd.C_drew ?_))); (case side2 => exact HC0_2.out); (case side3 => repeat (first | exact (Kd.C_below HR0_3.out HB.out) | (with_reducible refine Kd.C_alloc ?_ _) | (with_reducible refine Kd.C_drewN ?_ _) | (with_reducible refine Kd.C_drew ?_))); (case side4 => exact HC0_3.out); rintro e w15 ⟨rfl,hb⟩; refine ⟨_,rfl,?_⟩; have n0_ := Aside0.mk (blk_below (g:=gb356) (o:=.cells #[.int .i64 a0_0,.int .i64 a0_1,.slice A0_2 l0_2.length c0_2,.slice A0_3 l0_3.length c0_3,.int .i64 a0_4,.int .i64 a0_5,.int .i64 a0_6,.int .i64 a0_7,.int .i64 a0_8,.int .i64 a0_9] 26 (0,0)) (kA BK356.out) hb); have n1_ := Aside0.mk (below_step bA hb); clear BK356; clear HB; have BK356 := n0_; have HB := n1_; clear n0_ n1_; (try clear hb); (try clear hb2); (try clear hk); (try clear hi); obtain ⟨hcz16_0,hcz16_1,hcz16_2,hcz16_3,hcz16_4,hcz16_5,hcz16_6,hcz16_7,hcz16_8,hcz16_9⟩ := cl10 BK356.out; obtain ⟨hfz16_0,hfz16_1,hfz16_2,hfz16_3,hfz16_4,hfz16_5,hfz16_6,hfz16_7,hfz16_8,hfz16_9⟩ := fz10 BK356.out) | ((with_reducible refine gate_callee (f:=8) rfl ?_); refine goesL_ (some 20) rfl rfl Tryd.func8 (by kernel_rfl) rfl #[.agg #[.int .i64 a0_0,.int .i64 a0_1,.slice A0_2 l0_2.length c0_2,.slice A0_3 l0_3.length c0_3,.int .i64 a0_4,.int .i64 a0_5,.int .i64 a0_6,.int .i64 a0_7,.int .i64 a0_8,.int .i64 a0_9]] rfl mA ?_; (with_reducible refine (laws_toState.calls k a0_0 a0_1 _ _ l0_2 _ _ l0_3 a0_4 a0_5 a0_6 a0_7 a0_8 a0_9 t358 t359 t360 t363 t366 t367 t368 t369 t370 t371 _ ?side1 ?side2 ?side3 ?side4 A8.out).mono ?_); (case side1 => repeat (first | exact (Kd.C_below HR0_2.out HB.out) | (with_reducible refine Kd.C_alloc ?_ _) | (with_reducible refine Kd.C_drewN ?_ _) | (with_reducible refine Kd.C_drew ?_))); (case side2 => exact HC0_2.out); (case side3 => repeat (first | exact (Kd.C_below HR0_3.out HB.out) | (with_reducible refine Kd.C_alloc ?_ _) | (with_reducible refine Kd.C_drewN ?_ _) | (with_reducible refine Kd.C_drew ?_))); (case side4 => exact HC0_3.out); rintro e w17 ⟨v361,v364,rfl,ho0,ho1,hb⟩; refine ⟨_,rfl,?_⟩; have n0_ := Aside0.mk (Kd.R_lower ho0 (below_size bA)); have n1_ := Aside0.mk (Kd.R_lower ho1 (below_size bA)); have n2_ := Aside0.mk (blk_below (g:=gb356) (o:=.cells #[.int .i64 a0_0,.int .i64 a0_1,.slice A0_2 l0_2.length c0_2,.slice A0_3 l0_3.length c0_3,.int .i64 a0_4,.int .i64 a0_5,.int .i64 a0_6,.int .i64 a0_7,.int .i64 a0_8,.int .i64 a0_9] 26 (0,0)) (kA BK356.out) hb); have n3_ := Aside0.mk (below_step bA hb); clear BK356; clear HB; have HO362 := n0_; have HO365 := n1_; have BK356 := n2_; have HB := n3_; clear n0_ n1_ n2_ n3_; (try clear hb); (try clear hb2); (try clear hk); (try clear hi); (try clear ho0); (try clear ho1); obtain ⟨Ao18,co18,eo18⟩ := Kd.R_slice HO362.out; subst eo18; obtain ⟨Ao19,co19,eo19⟩ := Kd.R_slice HO365.out; subst eo19) | ((with_reducible refine gate_callee (f:=13) rfl ?_); refine goesL_ (some 22) rfl rfl Tryd.func13 (by kernel_rfl) rfl #[.agg #[.int .i64 t358,.int .i64 t359,.slice Ao18 t360.length co18,.slice Ao19 t363.length co19,.int .i64 t366,.int .i64 t367,.int .i64 t368,.int .i64 t369,.int .i64 t370,.int .i64 t371],.int .i64 a1] rfl mA ?_; (with_reducible refine (spec_ExpiredEntry.calls k t358 t359 _ _ t360 _ _ t363 t366 t367 t368 t369 t370 t371 a1 t372 t373 t374 t375 t376 t377 _ ?side1 ?side2 ?side3 ?side4 A9.out).mono ?_); (case side1 => repeat (first | exact (Kd.R_reads' HO362.out).2.2 | (with_reducible refine Kd.C_alloc ?_ _) | (with_reducible refine Kd.C_drewN ?_ _) | (with_reducible refine Kd.C_drew ?_))); (case side2 => exact (Kd.R_reads' HO362.out).2.1); (case side3 => repeat (first | exact (Kd.R_reads' HO365.out).2.2 | (with_reducible refine Kd.C_alloc ?_ _) | (with_reducible refine Kd.C_drewN ?_ _) | (with_reducible refine Kd.C_drew ?_))); (case side4 => exact (Kd.R_reads' HO365.out).2.1); rintro e w20 ⟨rfl,hb⟩; refine ⟨_,rfl,?_⟩; have n0_ := Aside0.mk (Kd.R_below (rA HO362.out) hb); have n1_ := Aside0.mk (Kd.R_below (rA HO365.out) hb); have n2_ := Aside0.mk (blk_below (g:=gb356) (o:=.cells #[.int .i64 a0_0,.int .i64 a0_1,.slice A0_2 l0_2.length c0_2,.slice A0_3 l0_3.length c0_3,.int .i64 a0_4,.int .i64 a0_5,.int .i64 a0_6,.int .i64 a0_7,.int .i64 a0_8,.int .i64 a0_9] 26 (0,0)) (kA BK356.out) hb); have n3_ := Aside0.mk (below_step bA hb); clear HO362; clear HO365; clear BK356; clear HB; have HO362 := n0_; have HO365 := n1_; have BK356 := n2_; have HB := n3_; clear n0_ n1_ n2_ n3_; (try clear hb); (try clear hb2); (try clear hk); (try clear hi)) | ((with_reducible refine gate_dst (N:=6) rfl ?_); refine box_event ?hg (N:=6) ?hd (cs := #[.int .i64 0,.int .i64 0,.int .i64 0,.string (⟨#[]⟩ : ByteArray)]) (t:=39) ?hr ?_; (case hd => rfl); (case hg => rfl); (case hr => first | (go_simp; done) | (go_simp; rfl)); intro gb378 hg w21 hbox hb; have n0_ := Aside0.mk (Kd.R_below (Kd.R_elderB (rA HO362.out) gb378 (Nat.le_of_eq hg.symm)) hb); have n1_ := Aside0.mk (Kd.R_below (rA HO365.out) hb); have n2_ := Aside0.mk (blk_below (g:=gb356) (o:=.cells #[.int .i64 a0_0,.int .i64 a0_1,.slice A0_2 l0_2.length c0_2,.slice A0_3 l0_3.length c0_3,.int .i64 a0_4,.int .i64 a0_5,.int .i64 a0_6,.int .i64 a0_7,.int .i64 a0_8,.int .i64 a0_9] 26 (0,0)) (kA BK356.out) hb); have n3_ := Aside0.mk (below_step bA hb); have n4_ := Aside0.mk (hbox); have n5_ := Aside0.mk ((gw hg : w.heap.size ≤ gb378)); have n6_ := Aside0.mk ((gw hg : w.heap.size ≤ gb378)); have n7_ := Aside0.mk ((by rw [hg]; exact Nat.ne_of_lt (blk_lt (g:=gb356) (o:=.cells #[.int .i64 a0_0,.int .i64 a0_1,.slice A0_2 l0_2.length c0_2,.slice A0_3 l0_3.length c0_3,.int .i64 a0_4,.int .i64 a0_5,.int .i64 a0_6,.int .i64 a0_7,.int .i64 a0_8,.int .i64 a0_9] 26 (0,0)) (kA BK356.out)) : gb356 ≠ gb378)); have n8_ := Aside0.mk ((by rw [hg]; exact Nat.ne_of_gt (blk_lt (g:=gb356) (o:=.cells #[.int .i64 a0_0,.int .i64 a0_1,.slice A0_2 l0_2.length c0_2,.slice A0_3 l0_3.length c0_3,.int .i64 a0_4,.int .i64 a0_5,.int .i64 a0_6,.int .i64 a0_7,.int .i64 a0_8,.int .i64 a0_9] 26 (0,0)) (kA BK356.out)) : gb378 ≠ gb356)); clear HO362; clear HO365; clear BK356; clear HB; have HO362 := n0_; have HO365 := n1_; have BK356 := n2_; have HB := n3_; have BK378 := n4_; have GW378 := n5_; have GE378 := n6_; have NB356_378 := n7_; have NB378_356 := n8_; clear n0_ n1_ n2_ n3_ n4_ n5_ n6_ n7_ n8_; clear hb hbox hg; have hnb22 := NB378_356.out; have hnc22 := NB356_378.out; obtain ⟨hcz23_0,hcz23_1,hcz23_2,hcz23_3⟩ := cl4 BK378.out; obtain ⟨hfz23_0,hfz23_1,hfz23_2,hfz23_3⟩ := fz4 BK378.out; obtain ⟨hcz24_0,hcz24_1,hcz24_2,hcz24_3,hcz24_4,hcz24_5,hcz24_6,hcz24_7,hcz24_8,hcz24_9⟩ := cl10 BK356.out; obtain ⟨hfz24_0,hfz24_1,hfz24_2,hfz24_3,hfz24_4,hfz24_5,hfz24_6,hfz24_7,hfz24_8,hfz24_9⟩ := fz10 BK356.out) | ((with_reducible refine gate_callee (f:=8) rfl ?_); refine goesL_ (some 27) rfl rfl Tryd.func8 (by kernel_rfl) rfl #[.agg #[.int .i64 a0_0,.int .i64 a0_1,.slice A0_2 l0_2.length c0_2,.slice A0_3 l0_3.length c0_3,.int .i64 a0_4,.int .i64 a0_5,.int .i64 a0_6,.int .i64 a0_7,.int .i64 a0_8,.int .i64 a0_9]] rfl mA ?_; (with_reducible refine (laws_toState.calls k a0_0 a0_1 _ _ l0_2 _ _ l0_3 a0_4 a0_5 a0_6 a0_7 a0_8 a0_9 t379 t380 t381 t384 t387 t388 t389 t390 t391 t392 _ ?side1 ?side2 ?side3 ?side4 A10.out).mono ?_); (case side1 => exact Kd.C_below HR0_2.out bA); (case side2 => exact HC0_2.out); (case side3 => exact Kd.C_below HR0_3.out bA); (case side4 => exact HC0_3.out); rintro e w25 ⟨v382,v385,rfl,ho0,ho1,hb⟩; refine ⟨_,rfl,?_⟩; have n0_ := Aside0.mk (Kd.R_elder' (by (with_reducible repeat (first | apply Kd.R_alloc | apply Kd.R_drewN | apply Kd.R_drew)); exact (Kd.R_mono (Kd.R_far (p:=⟨gb378,3,none⟩) (Kd.R_far (p:=⟨gb378,2,none⟩) (Kd.R_far (p:=⟨gb378,1,none⟩) (Kd.R_far (p:=⟨gb378,0,none⟩) (Kd.R_mono HO362.out (fun k_ hk => (⟨hk,hk.2⟩ : _ ∧ k_ ≠ gb378))) (fun _ hk => hk.2) (.int .i64 t372)) (fun _ hk => hk.2) (.int .i64 t373)) (fun _ hk => hk.2) (.int .i64 t374)) (fun _ hk => hk.2) (.string t375)) (fun _ h_ => h_.1))) (Kd.R_base ho0) hb); have n1_ := Aside0.mk (Kd.R_elder' (by (with_reducible repeat (first | apply Kd.R_alloc | apply Kd.R_drewN | apply Kd.R_drew)); exact (Kd.R_mono (Kd.R_far (p:=⟨gb378,3,none⟩) (Kd.R_far (p:=⟨gb378,2,none⟩) (Kd.R_far (p:=⟨gb378,1,none⟩) (Kd.R_far (p:=⟨gb378,0,none⟩) (Kd.R_types HO365.out BK378.out (by decide)) (fun _ hk => hk.2) (.int .i64 t372)) (fun _ hk => hk.2) (.int .i64 t373)) (fun _ hk => hk.2) (.int .i64 t374)) (fun _ hk => hk.2) (.string t375)) (fun _ h_ => h_.1))) (Kd.R_base ho1) hb); have n2_ := Aside0.mk (Kd.R_lower (Kd.R_newB (Kd.R_new' ho0 (Kd.R_lt (by (with_reducible repeat (first | apply Kd.R_alloc | apply Kd.R_drewN | apply Kd.R_drew)); exact (Kd.R_mono (Kd.R_far (p:=⟨gb378,3,none⟩) (Kd.R_far (p:=⟨gb378,2,none⟩) (Kd.R_far (p:=⟨gb378,1,none⟩) (Kd.R_far (p:=⟨gb378,0,none⟩) (Kd.R_mono HO362.out (fun k_ hk => (⟨hk,hk.2⟩ : _ ∧ k_ ≠ gb378))) (fun _ hk => hk.2) (.int .i64 t372)) (fun _ hk => hk.2) (.int .i64 t373)) (fun _ hk => hk.2) (.int .i64 t374)) (fun _ hk => hk.2) (.string t375)) (fun _ h_ => h_.1))))) (g:=gb378) (o:=.cells #[.int .i64 t372,.int .i64 t373,.int .i64 t374,.string t375] 39 (0,0)) (by (with_reducible repeat (first | refine blk_drewN ?_ _ | refine blk_drew ?_ | refine blk_alloc ?_ _)); refine blk_put (cs := #[.int .i64 t372,.int .i64 t373,.int .i64 t374,.string (⟨#[]⟩ : ByteArray)]) ?_ 3 _ rfl; (with_reducible repeat (first | refine blk_drewN ?_ _ | refine blk_drew ?_ | refine blk_alloc ?_ _)); refine blk_put (cs := #[.int .i64 t372,.int .i64 t373,.int .i64 0,.string (⟨#[]⟩ : ByteArray)]) ?_ 2 _ rfl; (with_reducible repeat (first | refine blk_drewN ?_ _ | refine blk_drew ?_ | refine blk_alloc ?_ _)); refine blk_put (cs := #[.int .i64 t372,.int .i64 0,.int .i64 0,.string (⟨#[]⟩ : ByteArray)]) ?_ 1 _ rfl; (with_reducible repeat (first | refine blk_drewN ?_ _ | refine blk_drew ?_ | refine blk_alloc ?_ _)); refine blk_put (cs := #[.int .i64 0,.int .i64 0,.int .i64 0,.string (⟨#[]⟩ : ByteArray)]) ?_ 0 _ rfl; (with_reducible repeat (first | refine blk_drewN ?_ _ | refine blk_drew ?_ | refine blk_alloc ?_ _)); exact BK378.out)) (below_size bA)); have n3_ := Aside0.mk (Kd.R_lower (Kd.R_new' ho1 (Kd.R_lt (by (with_reducible repeat (first | apply Kd.R_alloc | apply Kd.R_drewN | apply Kd.R_drew)); exact (Kd.R_mono (Kd.R_far (p:=⟨gb378,3,none⟩) (Kd.R_far (p:=⟨gb378,2,none⟩) (Kd.R_far (p:=⟨gb378,1,none⟩) (Kd.R_far (p:=⟨gb378,0,none⟩) (Kd.R_types HO365.out BK378.out (by decide)) (fun _ hk => hk.2) (.int .i64 t372)) (fun _ hk => hk.2) (.int .i64 t373)) (fun _ hk => hk.2) (.int .i64 t374)) (fun _ hk => hk.2) (.string t375)) (fun _ h_ => h_.1))))) (below_size bA)); have n4_ := Aside0.mk (blk_below (g:=gb356) (o:=.cells #[.int .i64 a0_0,.int .i64 a0_1,.slice A0_2 l0_2.length c0_2,.slice A0_3 l0_3.length c0_3,.int .i64 a0_4,.int .i64 a0_5,.int .i64 a0_6,.int .i64 a0_7,.int .i64 a0_8,.int .i64 a0_9] 26 (0,0)) (kF BK356.out) hb); have n5_ := Aside0.mk (blk_below (g:=gb378) (o:=.cells #[.int .i64 t372,.int .i64 t373,.int .i64 t374,.string t375] 39 (0,0)) (by (with_reducible repeat (first | refine blk_drewN ?_ _ | refine blk_drew ?_ | refine blk_alloc ?_ _)); refine blk_put (cs := #[.int .i64 t372,.int .i64 t373,.int .i64 t374,.string (⟨#[]⟩ : ByteArray)]) ?_ 3 _ rfl; (with_reducible repeat (first | refine blk_drewN ?_ _ | refine blk_drew ?_ | refine blk_alloc ?_ _)); refine blk_put (cs := #[.int .i64 t372,.int .i64 t373,.int .i64 0,.string (⟨#[]⟩ : ByteArray)]) ?_ 2 _ rfl; (with_reducible repeat (first | refine blk_drewN ?_ _ | refine blk_drew ?_ | refine blk_alloc ?_ _)); refine blk_put (cs := #[.int .i64 t372,.int .i64 0,.int .i64 0,.string (⟨#[]⟩ : ByteArray)]) ?_ 1 _ rfl; (with_reducible repeat (first | refine blk_drewN ?_ _ | refine blk_drew ?_ | refine blk_alloc ?_ _)); refine blk_put (cs := #[.int .i64 0,.int .i64 0,.int .i64 0,.string (⟨#[]⟩ : ByteArray)]) ?_ 0 _ rfl; (with_reducible repeat (first | refine blk_drewN ?_ _ | refine blk_drew ?_ | refine blk_alloc ?_ _)); exact BK378.out) hb); have n6_ := Aside0.mk (below_step bA hb); clear HO362; clear HO365; clear BK356; clear BK378; clear HB; have HO362 := n0_; have HO365 := n1_; have HO383 := n2_; have HO386 := n3_; have BK356 := n4_; have BK378 := n5_; have HB := n6_; clear n0_ n1_ n2_ n3_ n4_ n5_ n6_; (try clear hb); (try clear hb2); (try clear hk); (try clear hi); (try clear ho0); (try clear ho1)) | ((with_reducible refine gate_dst (N:=9) rfl ?_); refine box_event ?hg (N:=9) ?hd (cs := #[.int .i64 0,.int .i64 0,.slice none 0 0,.slice none 0 0,.int .i64 0,.int .i64 0,.int .i64 0,.int .i64 0,.int .i64 0,.int .i64 0]) (t:=32) ?hr ?_; (case hd => rfl); (case hg => rfl); (case hr => first | (go_simp; done) | (go_simp; rfl)); intro gb393 hg w26 hbox hb; have n0_ := Aside0.mk (Kd.R_below (rA HO362.out) hb); have n1_ := Aside0.mk (Kd.R_below (rA HO365.out) hb); have n2_ := Aside0.mk (Kd.R_below (rA HO383.out) hb); have n3_ := Aside0.mk (Kd.R_below (rA HO386.out) hb); have n4_ := Aside0.mk (blk_below (g:=gb356) (o:=.cells #[.int .i64 a0_0,.int .i64 a0_1,.slice A0_2 l0_2.length c0_2,.slice A0_3 l0_3.length c0_3,.int .i64 a0_4,.int .i64 a0_5,.int .i64 a0_6,.int .i64 a0_7,.int .i64 a0_8,.int .i64 a0_9] 26 (0,0)) (kA BK356.out) hb); have n5_ := Aside0.mk (blk_below (g:=gb378) (o:=.cells #[.int .i64 t372,.int .i64 t373,.int .i64 t374,.string t375] 39 (0,0)) (kA BK378.out) hb); have n6_ := Aside0.mk (below_step bA hb); have n7_ := Aside0.mk (hbox); have n8_ := Aside0.mk ((gw hg : w.heap.size ≤ gb393)); have n9_ := Aside0.mk ((gw hg : w.heap.size ≤ gb393)); have n10_ := Aside0.mk ((by rw [hg]; exact Nat.ne_of_lt (blk_lt (g:=gb356) (o:=.cells #[.int .i64 a0_0,.int .i64 a0_1,.slice A0_2 l0_2.length c0_2,.slice A0_3 l0_3.length c0_3,.int .i64 a0_4,.int .i64 a0_5,.int .i64 a0_6,.int .i64 a0_7,.int .i64 a0_8,.int .i64 a0_9] 26 (0,0)) (kA BK356.out)) : gb356 ≠ gb393)); have n11_ := Aside0.mk ((by rw [hg]; exact Nat.ne_of_gt (blk_lt (g:=gb356) (o:=.cells #[.int .i64 a0_0,.int .i64 a0_1,.slice A0_2 l0_2.length c0_2,.slice A0_3 l0_3.length c0_3,.int .i64 a0_4,.int .i64 a0_5,.int .i64 a0_6,.int .i64 a0_7,.int .i64 a0_8,.int .i64 a0_9] 26 (0,0)) (kA BK356.out)) : gb393 ≠ gb356)); have n12_ := Aside0.mk ((by rw [hg]; exact Nat.ne_of_lt (blk_lt (g:=gb378) (o:=.cells #[.int .i64 t372,.int .i64 t373,.int .i64 t374,.string t375] 39 (0,0)) (kA BK378.out)) : gb378 ≠ gb393)); have n13_ := Aside0.mk ((by rw [hg]; exact Nat.ne_of_gt (blk_lt (g:=gb378) (o:=.cells #[.int .i64 t372,.int .i64 t373,.int .i64 t374,.string t375] 39 (0,0)) (kA BK378.out)) : gb393 ≠ gb378)); clear HO362; clear HO365; clear HO383; clear HO386; clear BK356; clear BK378; clear HB; have HO362 := n0_; have HO365 := n1_; have HO383 := n2_; have HO386 := n3_; have BK356 := n4_; have BK378 := n5_; have HB := n6_; have BK393 := n7_; have GW393 := n8_; have GE393 := n9_; have NB356_393 := n10_; have NB393_356 := n11_; have NB378_393 := n12_; have NB393_378 := n13_; clear n0_ n1_ n2_ n3_ n4_ n5_ n6_ n7_ n8_ n9_ n10_ n11_ n12_ n13_; clear hb hbox hg; have hnb27 := NB393_356.out; have hnc27 := NB356_393.out; have hnb28 := NB393_378.out; have hnc28 := NB378_393.out; obtain ⟨hcz29_0,hcz29_1,hcz29_2,hcz29_3,hcz29_4,hcz29_5,hcz29_6,hcz29_7,hcz29_8,hcz29_9⟩ := cl10 BK393.out; obtain ⟨hfz29_0,hfz29_1,hfz29_2,hfz29_3,hfz29_4,hfz29_5,hfz29_6,hfz29_7,hfz29_8,hfz29_9⟩ := fz10 BK393.out; obtain ⟨Ao30,co30,eo30⟩ := Kd.R_slice HO383.out; subst eo30; obtain ⟨Ao31,co31,eo31⟩ := Kd.R_slice HO386.out; subst eo31) | ((with_reducible refine gate_callee (f:=14) rfl ?_); refine goesL_ (some 31) rfl rfl Tryd.func14 (by kernel_rfl) rfl #[.agg #[.int .i64 t379,.int .i64 t380,.slice Ao30 t381.length co30,.slice Ao31 t384.length co31,.int .i64 t387,.int .i64 t388,.int .i64 t389,.int .i64 t390,.int .i64 t391,.int .i64 t392],.int .i64 a1] rfl mA ?_; (with_reducible refine (impl_ExpiredEntry.calls k t379 t380 _ _ t381 _ _ t384 t387 t388 t389 t390 t391 t392 a1 t394 t395 t396 t397 t398 t399 _ ?side1 ?side2 ?side3 ?side4 ?side5 A11.out).mono ?_); (case side1 => exact HV.out.below bA); (case side2 => refine (Kd.R_reads' (e:=39) (base := w.heap.size) (ok := fun k_ => ((True ∧ some k_ ≠ (.slice Ao18 t360.length co18 : Value).ownBlock) ∧ k_ ≠ gb378)) (n:=t381.length) (c:=co30) ?_).2.2; exact (by (with_reducible repeat (first | apply Kd.R_alloc | apply Kd.R_drewN | apply Kd.R_drew)); exact (Kd.R_mono (Kd.R_far (p:=⟨gb393,9,none⟩) (Kd.R_far (p:=⟨gb393,8,none⟩) (Kd.R_far (p:=⟨gb393,7,none⟩) (Kd.R_far (p:=⟨gb393,6,none⟩) (Kd.R_far (p:=⟨gb393,5,none⟩) (Kd.R_far (p:=⟨gb393,4,none⟩) (Kd.R_far (p:=⟨gb393,3,none⟩) (Kd.R_far (p:=⟨gb393,2,none⟩) (Kd.R_far (p:=⟨gb393,1,none⟩) (Kd.R_far (p:=⟨gb393,0,none⟩) (Kd.R_types HO383.out BK393.out (by decide)) (fun _ hk => hk.2) (.int .i64 t379)) (fun _ hk => hk.2) (.int .i64 t380)) (fun _ hk => hk.2) (.slice Ao30 t381.length co30)) (fun _ hk => hk.2) (.slice Ao31 t384.length co31)) (fun _ hk => hk.2) (.int .i64 t387)) (fun _ hk => hk.2) (.int .i64 t388)) (fun _ hk => hk.2) (.int .i64 t389)) (fun _ hk => hk.2) (.int .i64 t390)) (fun _ hk => hk.2) (.int .i64 t391)) (fun _ hk => hk.2) (.int .i64 t392)) (fun _ h_ => h_.1)))); (case side3 => exact (Kd.R_reads' HO383.out).2.1); (case side4 => refine (Kd.R_reads' (e:=55) (base := w.heap.size) (ok := fun k_ => (True ∧ some k_ ≠ (.slice Ao19 t363.length co19 : Value).ownBlock)) (n:=t384.length) (c:=co31) ?_).2.2; exact (by (with_reducible repeat (first | apply Kd.R_alloc | apply Kd.R_drewN | apply Kd.R_drew)); exact (Kd.R_mono (Kd.R_far (p:=⟨gb393,9,none⟩) (Kd.R_far (p:=⟨gb393,8,none⟩) (Kd.R_far (p:=⟨gb393,7,none⟩) (Kd.R_far (p:=⟨gb393,6,none⟩) (Kd.R_far (p:=⟨gb393,5,none⟩) (Kd.R_far (p:=⟨gb393,4,none⟩) (Kd.R_far (p:=⟨gb393,3,none⟩) (Kd.R_far (p:=⟨gb393,2,none⟩) (Kd.R_far (p:=⟨gb393,1,none⟩) (Kd.R_far (p:=⟨gb393,0,none⟩) (Kd.R_types HO386.out BK393.out (by decide)) (fun _ hk => hk.2) (.int .i64 t379)) (fun _ hk => hk.2) (.int .i64 t380)) (fun _ hk => hk.2) (.slice Ao30 t381.length co30)) (fun _ hk => hk.2) (.slice Ao31 t384.length co31)) (fun _ hk => hk.2) (.int .i64 t387)) (fun _ hk => hk.2) (.int .i64 t388)) (fun _ hk => hk.2) (.int .i64 t389)) (fun _ hk => hk.2) (.int .i64 t390)) (fun _ hk => hk.2) (.int .i64 t391)) (fun _ hk => hk.2) (.int .i64 t392)) (fun _ h_ => h_.1)))); (case side5 => exact (Kd.R_reads' HO386.out).2.1); rintro e w32 ⟨rfl,hb⟩; refine ⟨_,rfl,?_⟩; have n0_ := Aside0.mk (Kd.R_below (by (with_reducible repeat (first | apply Kd.R_alloc | apply Kd.R_drewN | apply Kd.R_drew)); exact (Kd.R_mono (Kd.R_far (p:=⟨gb393,9,none⟩) (Kd.R_far (p:=⟨gb393,8,none⟩) (Kd.R_far (p:=⟨gb393,7,none⟩) (Kd.R_far (p:=⟨gb393,6,none⟩) (Kd.R_far (p:=⟨gb393,5,none⟩) (Kd.R_far (p:=⟨gb393,4,none⟩) (Kd.R_far (p:=⟨gb393,3,none⟩) (Kd.R_far (p:=⟨gb393,2,none⟩) (Kd.R_far (p:=⟨gb393,1,none⟩) (Kd.R_far (p:=⟨gb393,0,none⟩) (Kd.R_types HO362.out BK393.out (by decide)) (fun _ hk => hk.2) (.int .i64 t379)) (fun _ hk => hk.2) (.int .i64 t380)) (fun _ hk => hk.2) (.slice Ao30 t381.length co30)) (fun _ hk => hk.2) (.slice Ao31 t384.length co31)) (fun _ hk => hk.2) (.int .i64 t387)) (fun _ hk => hk.2) (.int .i64 t388)) (fun _ hk => hk.2) (.int .i64 t389)) (fun _ hk => hk.2) (.int .i64 t390)) (fun _ hk => hk.2) (.int .i64 t391)) (fun _ hk => hk.2) (.int .i64 t392)) (fun _ h_ => h_.1))) hb); have n1_ := Aside0.mk (Kd.R_below (by (with_reducible repeat (first | apply Kd.R_alloc | apply Kd.R_drewN | apply Kd.R_drew)); exact (Kd.R_mono (Kd.R_far (p:=⟨gb393,9,none⟩) (Kd.R_far (p:=⟨gb393,8,none⟩) (Kd.R_far (p:=⟨gb393,7,none⟩) (Kd.R_far (p:=⟨gb393,6,none⟩) (Kd.R_far (p:=⟨gb393,5,none⟩) (Kd.R_far (p:=⟨gb393,4,none⟩) (Kd.R_far (p:=⟨gb393,3,none⟩) (Kd.R_far (p:=⟨gb393,2,none⟩) (Kd.R_far (p:=⟨gb393,1,none⟩) (Kd.R_far (p:=⟨gb393,0,none⟩) (Kd.R_types HO365.out BK393.out (by decide)) (fun _ hk => hk.2) (.int .i64 t379)) (fun _ hk => hk.2) (.int .i64 t380)) (fun _ hk => hk.2) (.slice Ao30 t381.length co30)) (fun _ hk => hk.2) (.slice Ao31 t384.length co31)) (fun _ hk => hk.2) (.int .i64 t387)) (fun _ hk => hk.2) (.int .i64 t388)) (fun _ hk => hk.2) (.int .i64 t389)) (fun _ hk => hk.2) (.int .i64 t390)) (fun _ hk => hk.2) (.int .i64 t391)) (fun _ hk => hk.2) (.int .i64 t392)) (fun _ h_ => h_.1))) hb); have n2_ := Aside0.mk (Kd.R_below (by (with_reducible repeat (first | apply Kd.R_alloc | apply Kd.R_drewN | apply Kd.R_drew)); exact (Kd.R_mono (Kd.R_far (p:=⟨gb393,9,none⟩) (Kd.R_far (p:=⟨gb393,8,none⟩) (Kd.R_far (p:=⟨gb393,7,none⟩) (Kd.R_far (p:=⟨gb393,6,none⟩) (Kd.R_far (p:=⟨gb393,5,none⟩) (Kd.R_far (p:=⟨gb393,4,none⟩) (Kd.R_far (p:=⟨gb393,3,none⟩) (Kd.R_far (p:=⟨gb393,2,none⟩) (Kd.R_far (p:=⟨gb393,1,none⟩) (Kd.R_far (p:=⟨gb393,0,none⟩) (Kd.R_types HO383.out BK393.out (by decide)) (fun _ hk => hk.2) (.int .i64 t379)) (fun _ hk => hk.2) (.int .i64 t380)) (fun _ hk => hk.2) (.slice Ao30 t381.length co30)) (fun _ hk => hk.2) (.slice Ao31 t384.length co31)) (fun _ hk => hk.2) (.int .i64 t387)) (fun _ hk => hk.2) (.int .i64 t388)) (fun _ hk => hk.2) (.int .i64 t389)) (fun _ hk => hk.2) (.int .i64 t390)) (fun _ hk => hk.2) (.int .i64 t391)) (fun _ hk => hk.2) (.int .i64 t392)) (fun _ h_ => h_.1))) hb); have n3_ := Aside0.mk (Kd.R_below (by (with_reducible repeat (first | apply Kd.R_alloc | apply Kd.R_drewN | apply Kd.R_drew)); exact (Kd.R_mono (Kd.R_far (p:=⟨gb393,9,none⟩) (Kd.R_far (p:=⟨gb393,8,none⟩) (Kd.R_far (p:=⟨gb393,7,none⟩) (Kd.R_far (p:=⟨gb393,6,none⟩) (Kd.R_far (p:=⟨gb393,5,none⟩) (Kd.R_far (p:=⟨gb393,4,none⟩) (Kd.R_far (p:=⟨gb393,3,none⟩) (Kd.R_far (p:=⟨gb393,2,none⟩) (Kd.R_far (p:=⟨gb393,1,none⟩) (Kd.R_far (p:=⟨gb393,0,none⟩) (Kd.R_types HO386.out BK393.out (by decide)) (fun _ hk => hk.2) (.int .i64 t379)) (fun _ hk => hk.2) (.int .i64 t380)) (fun _ hk => hk.2) (.slice Ao30 t381.length co30)) (fun _ hk => hk.2) (.slice Ao31 t384.length co31)) (fun _ hk => hk.2) (.int .i64 t387)) (fun _ hk => hk.2) (.int .i64 t388)) (fun _ hk => hk.2) (.int .i64 t389)) (fun _ hk => hk.2) (.int .i64 t390)) (fun _ hk => hk.2) (.int .i64 t391)) (fun _ hk => hk.2) (.int .i64 t392)) (fun _ h_ => h_.1))) hb); have n4_ := Aside0.mk (blk_below (g:=gb356) (o:=.cells #[.int .i64 a0_0,.int .i64 a0_1,.slice A0_2 l0_2.length c0_2,.slice A0_3 l0_3.length c0_3,.int .i64 a0_4,.int .i64 a0_5,.int .i64 a0_6,.int .i64 a0_7,.int .i64 a0_8,.int .i64 a0_9] 26 (0,0)) (kF BK356.out) hb); have n5_ := Aside0.mk (blk_below (g:=gb378) (o:=.cells #[.int .i64 t372,.int .i64 t373,.int .i64 t374,.string t375] 39 (0,0)) (kF BK378.out) hb); have n6_ := Aside0.mk (blk_below (g:=gb393) (o:=.cells #[.int .i64 t379,.int .i64 t380,.slice Ao30 t381.length co30,.slice Ao31 t384.length co31,.int .i64 t387,.int .i64 t388,.int .i64 t389,.int .i64 t390,.int .i64 t391,.int .i64 t392] 32 (0,0)) (by (with_reducible repeat (first | refine blk_drewN ?_ _ | refine blk_drew ?_ | refine blk_alloc ?_ _)); apply blkp10; (with_reducible repeat (first | refine blk_drewN ?_ _ | refine blk_drew ?_ | refine blk_alloc ?_ _)); exact BK393.out) hb); have n7_ := Aside0.mk (below_step bA hb); clear HO362; clear HO365; clear HO383; clear HO386; clear BK356; clear BK378; clear BK393; clear HB; have HO362 := n0_; have HO365 := n1_; have HO383 := n2_; have HO386 := n3_; have BK356 := n4_; have BK378 := n5_; have BK393 := n6_; have HB := n7_; clear n0_ n1_ n2_ n3_ n4_ n5_ n6_ n7_; (try clear hb); (try clear hb2); (try clear hk); (try clear hi)) | ((with_reducible refine gate_dst (N:=10) rfl ?_); refine box_event ?hg (N:=10) ?hd (cs := #[.int .i64 0,.int .i64 0,.int .i64 0,.string (⟨#[]⟩ : ByteArray)]) (t:=39) ?hr ?_; (case hd => rfl); (case hg => rfl); (case hr => first | (go_simp; done) | (go_simp; rfl)); intro gb400 hg w33 hbox hb; have n0_ := Aside0.mk (Kd.R_below (Kd.R_elderB (rA HO362.out) gb400 (Nat.le_of_eq hg.symm)) hb); have n1_ := Aside0.mk (Kd.R_below (rA HO365.out) hb); have n2_ := Aside0.mk (Kd.R_below (Kd.R_elderB (rA HO383.out) gb400 (Nat.le_of_eq hg.symm)) hb); have n3_ := Aside0.mk (Kd.R_below (rA HO386.out) hb); have n4_ := Aside0.mk (blk_below (g:=gb356) (o:=.cells #[.int .i64 a0_0,.int .i64 a0_1,.slice A0_2 l0_2.length c0_2,.slice A0_3 l0_3.length c0_3,.int .i64 a0_4,.int .i64 a0_5,.int .i64 a0_6,.int .i64 a0_7,.int .i64 a0_8,.int .i64 a0_9] 26 (0,0)) (kA BK356.out) hb); have n5_ := Aside0.mk (blk_below (g:=gb378) (o:=.cells #[.int .i64 t372,.int .i64 t373,.int .i64 t374,.string t375] 39 (0,0)) (kA BK378.out) hb); have n6_ := Aside0.mk (blk_below (g:=gb393) (o:=.cells #[.int .i64 t379,.int .i64 t380,.slice Ao30 t381.length co30,.slice Ao31 t384.length co31,.int .i64 t387,.int .i64 t388,.int .i64 t389,.int .i64 t390,.int .i64 t391,.int .i64 t392] 32 (0,0)) (kA BK393.out) hb); have n7_ := Aside0.mk (below_step bA hb); have n8_ := Aside0.mk (hbox); have n9_ := Aside0.mk ((gw hg : w.heap.size ≤ gb400)); have n10_ := Aside0.mk ((gw hg : w.heap.size ≤ gb400)); have n11_ := Aside0.mk ((by rw [hg]; exact Nat.ne_of_lt (blk_lt (g:=gb356) (o:=.cells #[.int .i64 a0_0,.int .i64 a0_1,.slice A0_2 l0_2.length c0_2,.slice A0_3 l0_3.length c0_3,.int .i64 a0_4,.int .i64 a0_5,.int .i64 a0_6,.int .i64 a0_7,.int .i64 a0_8,.int .i64 a0_9] 26 (0,0)) (kA BK356.out)) : gb356 ≠ gb400)); have n12_ := Aside0.mk ((by rw [hg]; exact Nat.ne_of_gt (blk_lt (g:=gb356) (o:=.cells #[.int .i64 a0_0,.int .i64 a0_1,.slice A0_2 l0_2.length c0_2,.slice A0_3 l0_3.length c0_3,.int .i64 a0_4,.int .i64 a0_5,.int .i64 a0_6,.int .i64 a0_7,.int .i64 a0_8,.int .i64 a0_9] 26 (0,0)) (kA BK356.out)) : gb400 ≠ gb356)); have n13_ := Aside0.mk ((by rw [hg]; exact Nat.ne_of_lt (blk_lt (g:=gb378) (o:=.cells #[.int .i64 t372,.int .i64 t373,.int .i64 t374,.string t375] 39 (0,0)) (kA BK378.out)) : gb378 ≠ gb400)); have n14_ := Aside0.mk ((by rw [hg]; exact Nat.ne_of_gt (blk_lt (g:=gb378) (o:=.cells #[.int .i64 t372,.int .i64 t373,.int .i64 t374,.string t375] 39 (0,0)) (kA BK378.out)) : gb400 ≠ gb378)); have n15_ := Aside0.mk ((by rw [hg]; exact Nat.ne_of_lt (blk_lt (g:=gb393) (o:=.cells #[.int .i64 t379,.int .i64 t380,.slice Ao30 t381.length co30,.slice Ao31 t384.length co31,.int .i64 t387,.int .i64 t388,.int .i64 t389,.int .i64 t390,.int .i64 t391,.int .i64 t392] 32 (0,0)) (kA BK393.out)) : gb393 ≠ gb400)); have n16_ := Aside0.mk ((by rw [hg]; exact Nat.ne_of_gt (blk_lt (g:=gb393) (o:=.cells #[.int .i64 t379,.int .i64 t380,.slice Ao30 t381.length co30,.slice Ao31 t384.length co31,.int .i64 t387,.int .i64 t388,.int .i64 t389,.int .i64 t390,.int .i64 t391,.int .i64 t392] 32 (0,0)) (kA BK393.out)) : gb400 ≠ gb393)); clear HO362; clear HO365; clear HO383; clear HO386; clear BK356; clear BK378; clear BK393; clear HB; have HO362 := n0_; have HO365 := n1_; have HO383 := n2_; have HO386 := n3_; have BK356 := n4_; have BK378 := n5_; have BK393 := n6_; have HB := n7_; have BK400 := n8_; have GW400 := n9_; have GE400 := n10_; have NB356_400 := n11_; have NB400_356 := n12_; have NB378_400 := n13_; have NB400_378 := n14_; have NB393_400 := n15_; have NB400_393 := n16_; clear n0_ n1_ n2_ n3_ n4_ n5_ n6_ n7_ n8_ n9_ n10_ n11_ n12_ n13_ n14_ n15_ n16_; clear hb hbox hg; have hnb34 := NB400_356.out; have hnc34 := NB356_400.out; have hnb35 := NB400_378.out; have hnc35 := NB378_400.out; have hnb36 := NB400_393.out; have hnc36 := NB393_400.out; obtain ⟨hcz37_0,hcz37_1,hcz37_2,hcz37_3⟩ := cl4 BK400.out; obtain ⟨hfz37_0,hfz37_1,hfz37_2,hfz37_3⟩ := fz4 BK400.out))
  (try simp only [Act.put,setIfInBounds_toArray,set_cons_zero,set_cons_succ])
  go_cut [48] (fun v48 wc => ∃ (kq : Nat) (x48_11 : Bool),v48 = .bool x48_11 ∧ Aside0 (laws_FnExactExpiredEntry.j0 kq x48_11 a0_0 a0_1 l0_2 l0_3 a0_4 a0_5 a0_6 a0_7 a0_8 a0_9 t379 t380 t381 t384 t387 t388 t389 t390 t391 t392 = some r) ∧ Aside0 (kq ≤ k) ∧ Aside0 (Kd.R k39 39 wc w.heap.size (fun k_ => k_ ≠ gb378 ∧ k_ ≠ gb400) (.slice Ao30 t381.length co30) t381) ∧ Aside0 (Kd.R k55 55 wc w.heap.size (fun _ => True) (.slice Ao31 t384.length co31) t384) ∧ Aside0 (wc.heap[gb356]? = some (.cells #[.int .i64 a0_0,.int .i64 a0_1,(.slice A0_2 l0_2.length c0_2),(.slice A0_3 l0_3.length c0_3),.int .i64 a0_4,.int .i64 a0_5,.int .i64 a0_6,.int .i64 a0_7,.int .i64 a0_8,.int .i64 a0_9] 26 (0,0))) ∧ Aside0 (wc.heap[gb378]? = some (.cells #[.int .i64 t372,.int .i64 t373,.int .i64 t374,.string t375] 39 (0,0))) ∧ Aside0 (wc.heap[gb393]? = some (.cells #[.int .i64 t379,.int .i64 t380,(.slice Ao30 t381.length co30),(.slice Ao31 t384.length co31),.int .i64 t387,.int .i64 t388,.int .i64 t389,.int .i64 t390,.int .i64 t391,.int .i64 t392] 32 (0,0))) ∧ Aside0 (wc.heap[gb400]? = some (.cells #[.int .i64 t394,.int .i64 t395,.int .i64 t396,.string t397] 39 (0,0))) ∧ Aside0 (Below w.heap.size w wc))
  case first =>
   have H := HC12.out
   clear HC12
   replace H := Option.bind_eq_some_iff.mp H
   obtain ⟨t401,A380,H⟩ := H
   try dsimp only at H
   have A38 := Aside0.mk A380
   clear A380
   by_cases c39 : t401 = true
   ·subst c39
    rw [if_pos rfl] at H
    by_cases c40 : (t398 != t376) = true
    ·rw [if_pos c40] at H
     have c40b0 : (t398 != t376) = true := c40
     (try (have c40b1 : decide (t398 = t376) = false := by simpa using c40))
     (try (have c40b2 : (t398 == t376) = false := by simpa using c40))
     (try (have c40b3 : ¬ (t398 = t376) := by simpa using c40))
     clear c40
     (first | rw [c40b0] | (simp only [i64_w,i32_w]; rw [c40b0]) | skip)
     have H' := Aside0.mk H
     clear H
     have hnb41 := NB400_356.out
     have hnc41 := NB356_400.out
     have hnb42 := NB400_378.out
     have hnc42 := NB378_400.out
     have hnb43 := NB400_393.out
     have hnc43 := NB393_400.out
     obtain ⟨hcz44_0,hcz44_1,hcz44_2,hcz44_3⟩ := cl4 BK400.out
     obtain ⟨hfz44_0,hfz44_1,hfz44_2,hfz44_3⟩ := fz4 BK400.out
     have hnb45 := NB378_356.out
     have hnc45 := NB356_378.out
     have hnb46 := NB378_393.out
     have hnc46 := NB393_378.out
     obtain ⟨hcz47_0,hcz47_1,hcz47_2,hcz47_3⟩ := cl4 BK378.out
     obtain ⟨hfz47_0,hfz47_1,hfz47_2,hfz47_3⟩ := fz4 BK378.out
     go_wp2_with (first | ((with_reducible refine gate_callee (f:=15) rfl ?_); refine goesL_ (some 37) rfl rfl Tryd.func15 (by kernel_rfl) rfl #[.agg #[.int .i64 t394,.int .i64 t395,.int .i64 t396,.string t397],.agg #[.int .i64 t372,.int .i64 t373,.int .i64 t374,.string t375]] rfl mA ?_; (with_reducible refine (laws_eqEntry.calls t394 t395 t396 t397 t372 t373 t374 t375 true _ A38.out).mono ?_); rintro e w48 ⟨rfl,hb⟩; refine ⟨_,rfl,?_⟩; have n0_ := Aside0.mk (Kd.R_below (by (with_reducible repeat (first | apply Kd.R_alloc | apply Kd.R_drewN | apply Kd.R_drew)); exact (Kd.R_mono (Kd.R_far (p:=⟨gb400,3,none⟩) (Kd.R_far (p:=⟨gb400,2,none⟩) (Kd.R_far (p:=⟨gb400,1,none⟩) (Kd.R_far (p:=⟨gb400,0,none⟩) (Kd.R_mono HO362.out (fun k_ hk => (⟨hk,hk.2⟩ : _ ∧ k_ ≠ gb400))) (fun _ hk => hk.2) (.int .i64 t394)) (fun _ hk => hk.2) (.int .i64 t395)) (fun _ hk => hk.2) (.int .i64 t396)) (fun _ hk => hk.2) (.string t397)) (fun _ h_ => h_.1))) hb); have n1_ := Aside0.mk (Kd.R_below (by (with_reducible repeat (first | apply Kd.R_alloc | apply Kd.R_drewN | apply Kd.R_drew)); exact (Kd.R_mono (Kd.R_far (p:=⟨gb400,3,none⟩) (Kd.R_far (p:=⟨gb400,2,none⟩) (Kd.R_far (p:=⟨gb400,1,none⟩) (Kd.R_far (p:=⟨gb400,0,none⟩) (Kd.R_types HO365.out BK400.out (by decide)) (fun _ hk => hk.2) (.int .i64 t394)) (fun _ hk => hk.2) (.int .i64 t395)) (fun _ hk => hk.2) (.int .i64 t396)) (fun _ hk => hk.2) (.string t397)) (fun _ h_ => h_.1))) hb); have n2_ := Aside0.mk (Kd.R_below (by (with_reducible repeat (first | apply Kd.R_alloc | apply Kd.R_drewN | apply Kd.R_drew)); exact (Kd.R_mono (Kd.R_far (p:=⟨gb400,3,none⟩) (Kd.R_far (p:=⟨gb400,2,none⟩) (Kd.R_far (p:=⟨gb400,1,none⟩) (Kd.R_far (p:=⟨gb400,0,none⟩) (Kd.R_mono HO383.out (fun k_ hk => (⟨hk,hk.2⟩ : _ ∧ k_ ≠ gb400))) (fun _ hk => hk.2) (.int .i64 t394)) (fun _ hk => hk.2) (.int .i64 t395)) (fun _ hk => hk.2) (.int .i64 t396)) (fun _ hk => hk.2) (.string t397)) (fun _ h_ => h_.1))) hb); have n3_ := Aside0.mk (Kd.R_below (by (with_reducible repeat (first | apply Kd.R_alloc | apply Kd.R_drewN | apply Kd.R_drew)); exact (Kd.R_mono (Kd.R_far (p:=⟨gb400,3,none⟩) (Kd.R_far (p:=⟨gb400,2,none⟩) (Kd.R_far (p:=⟨gb400,1,none⟩) (Kd.R_far (p:=⟨gb400,0,none⟩) (Kd.R_types HO386.out BK400.out (by decide)) (fun _ hk => hk.2) (.int .i64 t394)) (fun _ hk => hk.2) (.int .i64 t395)) (fun _ hk => hk.2) (.int .i64 t396)) (fun _ hk => hk.2) (.string t397)) (fun _ h_ => h_.1))) hb); have n4_ := Aside0.mk (blk_below (g:=gb356) (o:=.cells #[.int .i64 a0_0,.int .i64 a0_1,.slice A0_2 l0_2.length c0_2,.slice A0_3 l0_3.length c0_3,.int .i64 a0_4,.int .i64 a0_5,.int .i64 a0_6,.int .i64 a0_7,.int .i64 a0_8,.int .i64 a0_9] 26 (0,0)) (kF BK356.out) hb); have n5_ := Aside0.mk (blk_below (g:=gb378) (o:=.cells #[.int .i64 t372,.int .i64 t373,.int .i64 t374,.string t375] 39 (0,0)) (kF BK378.out) hb); have n6_ := Aside0.mk (blk_below (g:=gb393) (o:=.cells #[.int .i64 t379,.int .i64 t380,.slice Ao30 t381.length co30,.slice Ao31 t384.length co31,.int .i64 t387,.int .i64 t388,.int .i64 t389,.int .i64 t390,.int .i64 t391,.int .i64 t392] 32 (0,0)) (kF BK393.out) hb); have n7_ := Aside0.mk (blk_below (g:=gb400) (o:=.cells #[.int .i64 t394,.int .i64 t395,.int .i64 t396,.string t397] 39 (0,0)) (by (with_reducible repeat (first | refine blk_drewN ?_ _ | refine blk_drew ?_ | refine blk_alloc ?_ _)); refine blk_put (cs := #[.int .i64 t394,.int .i64 t395,.int .i64 t396,.string (⟨#[]⟩ : ByteArray)]) ?_ 3 _ rfl; (with_reducible repeat (first | refine blk_drewN ?_ _ | refine blk_drew ?_ | refine blk_alloc ?_ _)); refine blk_put (cs := #[.int .i64 t394,.int .i64 t395,.int .i64 0,.string (⟨#[]⟩ : ByteArray)]) ?_ 2 _ rfl; (with_reducible repeat (first | refine blk_drewN ?_ _ | refine blk_drew ?_ | refine blk_alloc ?_ _)); refine blk_put (cs := #[.int .i64 t394,.int .i64 0,.int .i64 0,.string (⟨#[]⟩ : ByteArray)]) ?_ 1 _ rfl; (with_reducible repeat (first | refine blk_drewN ?_ _ | refine blk_drew ?_ | refine blk_alloc ?_ _)); refine blk_put (cs := #[.int .i64 0,.int .i64 0,.int .i64 0,.string (⟨#[]⟩ : ByteArray)]) ?_ 0 _ rfl; (with_reducible repeat (first | refine blk_drewN ?_ _ | refine blk_drew ?_ | refine blk_alloc ?_ _)); exact BK400.out) hb); have n8_ := Aside0.mk (below_step bA hb); clear HO362; clear HO365; clear HO383; clear HO386; clear BK356; clear BK378; clear BK393; clear BK400; clear HB; have HO362 := n0_; have HO365 := n1_; have HO383 := n2_; have HO386 := n3_; have BK356 := n4_; have BK378 := n5_; have BK393 := n6_; have BK400 := n7_; have HB := n8_; clear n0_ n1_ n2_ n3_ n4_ n5_ n6_ n7_ n8_; (try clear hb); (try clear hb2); (try clear hk); (try clear hi)))
     go_meet
     case rel => exact ⟨_,(true),(by first | rfl | (simp; done) | (simp [*]; done)),H',⟨by first | omega | exact Nat.le_refl _⟩,⟨by (with_reducible repeat (first | apply Kd.R_alloc | apply Kd.R_drewN | apply Kd.R_drew)); exact Kd.R_mono HO383.out (fun _ hk => ⟨hk.1.2,hk.2⟩)⟩,⟨by (with_reducible repeat (first | apply Kd.R_alloc | apply Kd.R_drewN | apply Kd.R_drew)); exact Kd.R_mono HO386.out (fun _ hk => trivial)⟩,⟨kA BK356.out⟩,⟨kA BK378.out⟩,⟨kA BK393.out⟩,⟨kA BK400.out⟩,⟨bA⟩⟩
    ·rw [if_neg c40] at H
     have c40b0 : (t398 != t376) = false := by simpa using c40
     (try (have c40b1 : decide (t398 = t376) = true := by simpa using c40))
     (try (have c40b2 : (t398 == t376) = true := by simpa using c40))
     clear c40
     (first | rw [c40b0] | (simp only [i64_w,i32_w]; rw [c40b0]) | skip)
     have H' := Aside0.mk H
     clear H
     have hnb49 := NB400_356.out
     have hnc49 := NB356_400.out
     have hnb50 := NB400_378.out
     have hnc50 := NB378_400.out
     have hnb51 := NB400_393.out
     have hnc51 := NB393_400.out
     obtain ⟨hcz52_0,hcz52_1,hcz52_2,hcz52_3⟩ := cl4 BK400.out
     obtain ⟨hfz52_0,hfz52_1,hfz52_2,hfz52_3⟩ := fz4 BK400.out
     have hnb53 := NB378_356.out
     have hnc53 := NB356_378.out
     have hnb54 := NB378_393.out
     have hnc54 := NB393_378.out
     obtain ⟨hcz55_0,hcz55_1,hcz55_2,hcz55_3⟩ := cl4 BK378.out
     obtain ⟨hfz55_0,hfz55_1,hfz55_2,hfz55_3⟩ := fz4 BK378.out
     go_wp2_with (first | ((with_reducible refine gate_callee (f:=15) rfl ?_); refine goesL_ (some 37) rfl rfl Tryd.func15 (by kernel_rfl) rfl #[.agg #[.int .i64 t394,.int .i64 t395,.int .i64 t396,.string t397],.agg #[.int .i64 t372,.int .i64 t373,.int .i64 t374,.string t375]] rfl mA ?_; (with_reducible refine (laws_eqEntry.calls t394 t395 t396 t397 t372 t373 t374 t375 true _ A38.out).mono ?_); rintro e w56 ⟨rfl,hb⟩; refine ⟨_,rfl,?_⟩; have n0_ := Aside0.mk (Kd.R_below (by (with_reducible repeat (first | apply Kd.R_alloc | apply Kd.R_drewN | apply Kd.R_drew)); exact (Kd.R_mono (Kd.R_far (p:=⟨gb400,3,none⟩) (Kd.R_far (p:=⟨gb400,2,none⟩) (Kd.R_far (p:=⟨gb400,1,none⟩) (Kd.R_far (p:=⟨gb400,0,none⟩) (Kd.R_mono HO362.out (fun k_ hk => (⟨hk,hk.2⟩ : _ ∧ k_ ≠ gb400))) (fun _ hk => hk.2) (.int .i64 t394)) (fun _ hk => hk.2) (.int .i64 t395)) (fun _ hk => hk.2) (.int .i64 t396)) (fun _ hk => hk.2) (.string t397)) (fun _ h_ => h_.1))) hb); have n1_ := Aside0.mk (Kd.R_below (by (with_reducible repeat (first | apply Kd.R_alloc | apply Kd.R_drewN | apply Kd.R_drew)); exact (Kd.R_mono (Kd.R_far (p:=⟨gb400,3,none⟩) (Kd.R_far (p:=⟨gb400,2,none⟩) (Kd.R_far (p:=⟨gb400,1,none⟩) (Kd.R_far (p:=⟨gb400,0,none⟩) (Kd.R_types HO365.out BK400.out (by decide)) (fun _ hk => hk.2) (.int .i64 t394)) (fun _ hk => hk.2) (.int .i64 t395)) (fun _ hk => hk.2) (.int .i64 t396)) (fun _ hk => hk.2) (.string t397)) (fun _ h_ => h_.1))) hb); have n2_ := Aside0.mk (Kd.R_below (by (with_reducible repeat (first | apply Kd.R_alloc | apply Kd.R_drewN | apply Kd.R_drew)); exact (Kd.R_mono (Kd.R_far (p:=⟨gb400,3,none⟩) (Kd.R_far (p:=⟨gb400,2,none⟩) (Kd.R_far (p:=⟨gb400,1,none⟩) (Kd.R_far (p:=⟨gb400,0,none⟩) (Kd.R_mono HO383.out (fun k_ hk => (⟨hk,hk.2⟩ : _ ∧ k_ ≠ gb400))) (fun _ hk => hk.2) (.int .i64 t394)) (fun _ hk => hk.2) (.int .i64 t395)) (fun _ hk => hk.2) (.int .i64 t396)) (fun _ hk => hk.2) (.string t397)) (fun _ h_ => h_.1))) hb); have n3_ := Aside0.mk (Kd.R_below (by (with_reducible repeat (first | apply Kd.R_alloc | apply Kd.R_drewN | apply Kd.R_drew)); exact (Kd.R_mono (Kd.R_far (p:=⟨gb400,3,none⟩) (Kd.R_far (p:=⟨gb400,2,none⟩) (Kd.R_far (p:=⟨gb400,1,none⟩) (Kd.R_far (p:=⟨gb400,0,none⟩) (Kd.R_types HO386.out BK400.out (by decide)) (fun _ hk => hk.2) (.int .i64 t394)) (fun _ hk => hk.2) (.int .i64 t395)) (fun _ hk => hk.2) (.int .i64 t396)) (fun _ hk => hk.2) (.string t397)) (fun _ h_ => h_.1))) hb); have n4_ := Aside0.mk (blk_below (g:=gb356) (o:=.cells #[.int .i64 a0_0,.int .i64 a0_1,.slice A0_2 l0_2.length c0_2,.slice A0_3 l0_3.length c0_3,.int .i64 a0_4,.int .i64 a0_5,.int .i64 a0_6,.int .i64 a0_7,.int .i64 a0_8,.int .i64 a0_9] 26 (0,0)) (kF BK356.out) hb); have n5_ := Aside0.mk (blk_below (g:=gb378) (o:=.cells #[.int .i64 t372,.int .i64 t373,.int .i64 t374,.string t375] 39 (0,0)) (kF BK378.out) hb); have n6_ := Aside0.mk (blk_below (g:=gb393) (o:=.cells #[.int .i64 t379,.int .i64 t380,.slice Ao30 t381.length co30,.slice Ao31 t384.length co31,.int .i64 t387,.int .i64 t388,.int .i64 t389,.int .i64 t390,.int .i64 t391,.int .i64 t392] 32 (0,0)) (kF BK393.out) hb); have n7_ := Aside0.mk (blk_below (g:=gb400) (o:=.cells #[.int .i64 t394,.int .i64 t395,.int .i64 t396,.string t397] 39 (0,0)) (by (with_reducible repeat (first | refine blk_drewN ?_ _ | refine blk_drew ?_ | refine blk_alloc ?_ _)); refine blk_put (cs := #[.int .i64 t394,.int .i64 t395,.int .i64 t396,.string (⟨#[]⟩ : ByteArray)]) ?_ 3 _ rfl; (with_reducible repeat (first | refine blk_drewN ?_ _ | refine blk_drew ?_ | refine blk_alloc ?_ _)); refine blk_put (cs := #[.int .i64 t394,.int .i64 t395,.int .i64 0,.string (⟨#[]⟩ : ByteArray)]) ?_ 2 _ rfl; (with_reducible repeat (first | refine blk_drewN ?_ _ | refine blk_drew ?_ | refine blk_alloc ?_ _)); refine blk_put (cs := #[.int .i64 t394,.int .i64 0,.int .i64 0,.string (⟨#[]⟩ : ByteArray)]) ?_ 1 _ rfl; (with_reducible repeat (first | refine blk_drewN ?_ _ | refine blk_drew ?_ | refine blk_alloc ?_ _)); refine blk_put (cs := #[.int .i64 0,.int .i64 0,.int .i64 0,.string (⟨#[]⟩ : ByteArray)]) ?_ 0 _ rfl; (with_reducible repeat (first | refine blk_drewN ?_ _ | refine blk_drew ?_ | refine blk_alloc ?_ _)); exact BK400.out) hb); have n8_ := Aside0.mk (below_step bA hb); clear HO362; clear HO365; clear HO383; clear HO386; clear BK356; clear BK378; clear BK393; clear BK400; clear HB; have HO362 := n0_; have HO365 := n1_; have HO383 := n2_; have HO386 := n3_; have BK356 := n4_; have BK378 := n5_; have BK393 := n6_; have BK400 := n7_; have HB := n8_; clear n0_ n1_ n2_ n3_ n4_ n5_ n6_ n7_ n8_; (try clear hb); (try clear hb2); (try clear hk); (try clear hi)))
     go_meet
     case rel => exact ⟨_,((t399 != t377)),(by first | rfl | (simp; done) | (simp [*]; done)),H',⟨by first | omega | exact Nat.le_refl _⟩,⟨by (with_reducible repeat (first | apply Kd.R_alloc | apply Kd.R_drewN | apply Kd.R_drew)); exact Kd.R_mono HO383.out (fun _ hk => ⟨hk.1.2,hk.2⟩)⟩,⟨by (with_reducible repeat (first | apply Kd.R_alloc | apply Kd.R_drewN | apply Kd.R_drew)); exact Kd.R_mono HO386.out (fun _ hk => trivial)⟩,⟨kA BK356.out⟩,⟨kA BK378.out⟩,⟨kA BK393.out⟩,⟨kA BK400.out⟩,⟨bA⟩⟩
   ·replace c39 := Bool.eq_false_iff.mpr c39
    subst c39
    rw [if_neg (show ¬ (false = true) by decide)] at H
    have H' := Aside0.mk H
    clear H
    have hnb57 := NB400_356.out
    have hnc57 := NB356_400.out
    have hnb58 := NB400_378.out
    have hnc58 := NB378_400.out
    have hnb59 := NB400_393.out
    have hnc59 := NB393_400.out
    obtain ⟨hcz60_0,hcz60_1,hcz60_2,hcz60_3⟩ := cl4 BK400.out
    obtain ⟨hfz60_0,hfz60_1,hfz60_2,hfz60_3⟩ := fz4 BK400.out
    have hnb61 := NB378_356.out
    have hnc61 := NB356_378.out
    have hnb62 := NB378_393.out
    have hnc62 := NB393_378.out
    obtain ⟨hcz63_0,hcz63_1,hcz63_2,hcz63_3⟩ := cl4 BK378.out
    obtain ⟨hfz63_0,hfz63_1,hfz63_2,hfz63_3⟩ := fz4 BK378.out
    go_wp2_with (first | ((with_reducible refine gate_callee (f:=15) rfl ?_); refine goesL_ (some 37) rfl rfl Tryd.func15 (by kernel_rfl) rfl #[.agg #[.int .i64 t394,.int .i64 t395,.int .i64 t396,.string t397],.agg #[.int .i64 t372,.int .i64 t373,.int .i64 t374,.string t375]] rfl mA ?_; (with_reducible refine (laws_eqEntry.calls t394 t395 t396 t397 t372 t373 t374 t375 false _ A38.out).mono ?_); rintro e w64 ⟨rfl,hb⟩; refine ⟨_,rfl,?_⟩; have n0_ := Aside0.mk (Kd.R_below (by (with_reducible repeat (first | apply Kd.R_alloc | apply Kd.R_drewN | apply Kd.R_drew)); exact (Kd.R_mono (Kd.R_far (p:=⟨gb400,3,none⟩) (Kd.R_far (p:=⟨gb400,2,none⟩) (Kd.R_far (p:=⟨gb400,1,none⟩) (Kd.R_far (p:=⟨gb400,0,none⟩) (Kd.R_mono HO362.out (fun k_ hk => (⟨hk,hk.2⟩ : _ ∧ k_ ≠ gb400))) (fun _ hk => hk.2) (.int .i64 t394)) (fun _ hk => hk.2) (.int .i64 t395)) (fun _ hk => hk.2) (.int .i64 t396)) (fun _ hk => hk.2) (.string t397)) (fun _ h_ => h_.1))) hb); have n1_ := Aside0.mk (Kd.R_below (by (with_reducible repeat (first | apply Kd.R_alloc | apply Kd.R_drewN | apply Kd.R_drew)); exact (Kd.R_mono (Kd.R_far (p:=⟨gb400,3,none⟩) (Kd.R_far (p:=⟨gb400,2,none⟩) (Kd.R_far (p:=⟨gb400,1,none⟩) (Kd.R_far (p:=⟨gb400,0,none⟩) (Kd.R_types HO365.out BK400.out (by decide)) (fun _ hk => hk.2) (.int .i64 t394)) (fun _ hk => hk.2) (.int .i64 t395)) (fun _ hk => hk.2) (.int .i64 t396)) (fun _ hk => hk.2) (.string t397)) (fun _ h_ => h_.1))) hb); have n2_ := Aside0.mk (Kd.R_below (by (with_reducible repeat (first | apply Kd.R_alloc | apply Kd.R_drewN | apply Kd.R_drew)); exact (Kd.R_mono (Kd.R_far (p:=⟨gb400,3,none⟩) (Kd.R_far (p:=⟨gb400,2,none⟩) (Kd.R_far (p:=⟨gb400,1,none⟩) (Kd.R_far (p:=⟨gb400,0,none⟩) (Kd.R_mono HO383.out (fun k_ hk => (⟨hk,hk.2⟩ : _ ∧ k_ ≠ gb400))) (fun _ hk => hk.2) (.int .i64 t394)) (fun _ hk => hk.2) (.int .i64 t395)) (fun _ hk => hk.2) (.int .i64 t396)) (fun _ hk => hk.2) (.string t397)) (fun _ h_ => h_.1))) hb); have n3_ := Aside0.mk (Kd.R_below (by (with_reducible repeat (first | apply Kd.R_alloc | apply Kd.R_drewN | apply Kd.R_drew)); exact (Kd.R_mono (Kd.R_far (p:=⟨gb400,3,none⟩) (Kd.R_far (p:=⟨gb400,2,none⟩) (Kd.R_far (p:=⟨gb400,1,none⟩) (Kd.R_far (p:=⟨gb400,0,none⟩) (Kd.R_types HO386.out BK400.out (by decide)) (fun _ hk => hk.2) (.int .i64 t394)) (fun _ hk => hk.2) (.int .i64 t395)) (fun _ hk => hk.2) (.int .i64 t396)) (fun _ hk => hk.2) (.string t397)) (fun _ h_ => h_.1))) hb); have n4_ := Aside0.mk (blk_below (g:=gb356) (o:=.cells #[.int .i64 a0_0,.int .i64 a0_1,.slice A0_2 l0_2.length c0_2,.slice A0_3 l0_3.length c0_3,.int .i64 a0_4,.int .i64 a0_5,.int .i64 a0_6,.int .i64 a0_7,.int .i64 a0_8,.int .i64 a0_9] 26 (0,0)) (kF BK356.out) hb); have n5_ := Aside0.mk (blk_below (g:=gb378) (o:=.cells #[.int .i64 t372,.int .i64 t373,.int .i64 t374,.string t375] 39 (0,0)) (kF BK378.out) hb); have n6_ := Aside0.mk (blk_below (g:=gb393) (o:=.cells #[.int .i64 t379,.int .i64 t380,.slice Ao30 t381.length co30,.slice Ao31 t384.length co31,.int .i64 t387,.int .i64 t388,.int .i64 t389,.int .i64 t390,.int .i64 t391,.int .i64 t392] 32 (0,0)) (kF BK393.out) hb); have n7_ := Aside0.mk (blk_below (g:=gb400) (o:=.cells #[.int .i64 t394,.int .i64 t395,.int .i64 t396,.string t397] 39 (0,0)) (by (with_reducible repeat (first | refine blk_drewN ?_ _ | refine blk_drew ?_ | refine blk_alloc ?_ _)); refine blk_put (cs := #[.int .i64 t394,.int .i64 t395,.int .i64 t396,.string (⟨#[]⟩ : ByteArray)]) ?_ 3 _ rfl; (with_reducible repeat (first | refine blk_drewN ?_ _ | refine blk_drew ?_ | refine blk_alloc ?_ _)); refine blk_put (cs := #[.int .i64 t394,.int .i64 t395,.int .i64 0,.string (⟨#[]⟩ : ByteArray)]) ?_ 2 _ rfl; (with_reducible repeat (first | refine blk_drewN ?_ _ | refine blk_drew ?_ | refine blk_alloc ?_ _)); refine blk_put (cs := #[.int .i64 t394,.int .i64 0,.int .i64 0,.string (⟨#[]⟩ : ByteArray)]) ?_ 1 _ rfl; (with_reducible repeat (first | refine blk_drewN ?_ _ | refine blk_drew ?_ | refine blk_alloc ?_ _)); refine blk_put (cs := #[.int .i64 0,.int .i64 0,.int .i64 0,.string (⟨#[]⟩ : ByteArray)]) ?_ 0 _ rfl; (with_reducible repeat (first | refine blk_drewN ?_ _ | refine blk_drew ?_ | refine blk_alloc ?_ _)); exact BK400.out) hb); have n8_ := Aside0.mk (below_step bA hb); clear HO362; clear HO365; clear HO383; clear HO386; clear BK356; clear BK378; clear BK393; clear BK400; clear HB; have HO362 := n0_; have HO365 := n1_; have HO383 := n2_; have HO386 := n3_; have BK356 := n4_; have BK378 := n5_; have BK393 := n6_; have BK400 := n7_; have HB := n8_; clear n0_ n1_ n2_ n3_ n4_ n5_ n6_ n7_ n8_; (try clear hb); (try clear hb2); (try clear hk); (try clear hi)))
    go_meet
    case rel => exact ⟨_,(true),(by first | rfl | (simp; done) | (simp [*]; done)),H',⟨by first | omega | exact Nat.le_refl _⟩,⟨by (with_reducible repeat (first | apply Kd.R_alloc | apply Kd.R_drewN | apply Kd.R_drew)); exact Kd.R_mono HO383.out (fun _ hk => ⟨hk.1.2,hk.2⟩)⟩,⟨by (with_reducible repeat (first | apply Kd.R_alloc | apply Kd.R_drewN | apply Kd.R_drew)); exact Kd.R_mono HO386.out (fun _ hk => trivial)⟩,⟨kA BK356.out⟩,⟨kA BK378.out⟩,⟨kA BK393.out⟩,⟨kA BK400.out⟩,⟨bA⟩⟩
  case rest =>
   clear HC12
   try clear c1
   try clear c2
   try clear p2
   try clear c3
   try clear c4
   try clear c4b0
   try clear c5
   try clear c6
   try clear c8
   try clear c13
   try clear c14
   try clear c15
   try clear c22
   try clear c27
   try clear c28
   try clear c34
   try clear c35
   try clear c36
   try clear c39
   try clear c40
   try clear c40b0
   try clear c40b1
   try clear c40b2
   try clear c41
   try clear c42
   try clear c43
   try clear c45
   try clear c46
   try clear c49
   try clear c50
   try clear c51
   try clear c53
   try clear c54
   try clear c57
   try clear c58
   try clear c59
   try clear c61
   try clear c62
   try clear hcz14_0
   try clear hcz14_1
   try clear hcz14_2
   try clear hcz14_3
   try clear hcz14_4
   try clear hcz14_5
   try clear hcz14_6
   try clear hcz14_7
   try clear hcz14_8
   try clear hcz14_9
   try clear hcz16_0
   try clear hcz16_1
   try clear hcz16_2
   try clear hcz16_3
   try clear hcz16_4
   try clear hcz16_5
   try clear hcz16_6
   try clear hcz16_7
   try clear hcz16_8
   try clear hcz16_9
   try clear hcz23_0
   try clear hcz23_1
   try clear hcz23_2
   try clear hcz23_3
   try clear hcz24_0
   try clear hcz24_1
   try clear hcz24_2
   try clear hcz24_3
   try clear hcz24_4
   try clear hcz24_5
   try clear hcz24_6
   try clear hcz24_7
   try clear hcz24_8
   try clear hcz24_9
   try clear hcz29_0
   try clear hcz29_1
   try clear hcz29_2
   try clear hcz29_3
   try clear hcz29_4
   try clear hcz29_5
   try clear hcz29_6
   try clear hcz29_7
   try clear hcz29_8
   try clear hcz29_9
   try clear hcz37_0
   try clear hcz37_1
   try clear hcz37_2
   try clear hcz37_3
   try clear hcz44_0
   try clear hcz44_1
   try clear hcz44_2
   try clear hcz44_3
   try clear hcz47_0
   try clear hcz47_1
   try clear hcz47_2
   try clear hcz47_3
   try clear hcz52_0
   try clear hcz52_1
   try clear hcz52_2
   try clear hcz52_3
   try clear hcz55_0
   try clear hcz55_1
   try clear hcz55_2
   try clear hcz55_3
   try clear hcz60_0
   try clear hcz60_1
   try clear hcz60_2
   try clear hcz60_3
   try clear hcz63_0
   try clear hcz63_1
   try clear hcz63_2
   try clear hcz63_3
   try clear hcz6_0
   try clear hcz6_1
   try clear hcz6_2
   try clear hcz6_3
   try clear hcz6_4
   try clear hcz6_5
   try clear hcz6_6
   try clear hcz6_7
   try clear hcz6_8
   try clear hcz6_9
   try clear hfz14_0
   try clear hfz14_1
   try clear hfz14_2
   try clear hfz14_3
   try clear hfz14_4
   try clear hfz14_5
   try clear hfz14_6
   try clear hfz14_7
   try clear hfz14_8
   try clear hfz14_9
   try clear hfz16_0
   try clear hfz16_1
   try clear hfz16_2
   try clear hfz16_3
   try clear hfz16_4
   try clear hfz16_5
   try clear hfz16_6
   try clear hfz16_7
   try clear hfz16_8
   try clear hfz16_9
   try clear hfz23_0
   try clear hfz23_1
   try clear hfz23_2
   try clear hfz23_3
   try clear hfz24_0
   try clear hfz24_1
   try clear hfz24_2
   try clear hfz24_3
   try clear hfz24_4
   try clear hfz24_5
   try clear hfz24_6
   try clear hfz24_7
   try clear hfz24_8
   try clear hfz24_9
   try clear hfz29_0
   try clear hfz29_1
   try clear hfz29_2
   try clear hfz29_3
   try clear hfz29_4
   try clear hfz29_5
   try clear hfz29_6
   try clear hfz29_7
   try clear hfz29_8
   try clear hfz29_9
   try clear hfz37_0
   try clear hfz37_1
   try clear hfz37_2
   try clear hfz37_3
   try clear hfz44_0
   try clear hfz44_1
   try clear hfz44_2
   try clear hfz44_3
   try clear hfz47_0
   try clear hfz47_1
   try clear hfz47_2
   try clear hfz47_3
   try clear hfz52_0
   try clear hfz52_1
   try clear hfz52_2
   try clear hfz52_3
   try clear hfz55_0
   try clear hfz55_1
   try clear hfz55_2
   try clear hfz55_3
   try clear hfz60_0
   try clear hfz60_1
   try clear hfz60_2
   try clear hfz60_3
   try clear hfz63_0
   try clear hfz63_1
   try clear hfz63_2
   try clear hfz63_3
   try clear hfz6_0
   try clear hfz6_1
   try clear hfz6_2
   try clear hfz6_3
   try clear hfz6_4
   try clear hfz6_5
   try clear hfz6_6
   try clear hfz6_7
   try clear hfz6_8
   try clear hfz6_9
   obtain ⟨kq,x48_11,rfl,HA,HJ11,HO_394002,HO_394003,BK356,BK378,BK393,BK400,HB⟩ := hcut
   cases kq with
   | zero => exact absurd HA.out (by simp [laws_FnExactExpiredEntry.j0])
   | succ kj11 =>
    have H := HA.out
    clear HA
    simp only [laws_FnExactExpiredEntry.j0] at H
    by_cases c65 : x48_11 = true
    ·subst c65
     rw [if_pos rfl] at H
     exact absurd H (by simp)
    ·replace c65 := Bool.eq_false_iff.mpr c65
     subst c65
     rw [if_neg (show ¬ (false = true) by decide)] at H
     replace H := Option.bind_eq_some_iff.mp H
     obtain ⟨⟨t402,t403,t404,t407,t410,t411,t412,t413,t414,t415⟩,A660,H⟩ := H
     try dsimp only at H
     have A66 := Aside0.mk A660
     clear A660
     replace H := Option.bind_eq_some_iff.mp H
     obtain ⟨t416,A670,H⟩ := H
     try dsimp only at H
     have A67 := Aside0.mk A670
     clear A670
     by_cases c68 : t416 = true
     ·subst c68
      rw [if_pos rfl] at H
      obtain rfl := Option.some.inj H
      try go_wp2
      have n0_ := Aside0.mk (Kd.R_drew HO_394002.out)
      have n1_ := Aside0.mk (Kd.R_drew HO_394003.out)
      have n2_ := Aside0.mk (blk_drew BK356.out)
      have n3_ := Aside0.mk (blk_drew BK378.out)
      have n4_ := Aside0.mk (blk_drew BK393.out)
      have n5_ := Aside0.mk (blk_drew BK400.out)
      have n6_ := Aside0.mk (below_drew1 HB.out)
      clear HO_394002
      clear HO_394003
      clear BK356
      clear BK378
      clear BK393
      clear BK400
      clear HB
      have HO_394002 := n0_
      have HO_394003 := n1_
      have BK356 := n2_
      have BK378 := n3_
      have BK393 := n4_
      have BK400 := n5_
      have HB := n6_
      clear n0_ n1_ n2_ n3_ n4_ n5_ n6_
      refine start_ (n:=5) (S:=fun w' => w'.cell? ⟨gb393,0,none⟩ = some (.int .i64 t379) ∧ w'.cell? ⟨gb393,1,none⟩ = some (.int .i64 t380) ∧ w'.cell? ⟨gb393,2,none⟩ = some (.slice Ao30 t381.length co30) ∧ w'.cell? ⟨gb393,3,none⟩ = some (.slice Ao31 t384.length co31) ∧ w'.cell? ⟨gb393,4,none⟩ = some (.int .i64 t387) ∧ w'.cell? ⟨gb393,5,none⟩ = some (.int .i64 t388) ∧ w'.cell? ⟨gb393,6,none⟩ = some (.int .i64 t389) ∧ w'.cell? ⟨gb393,7,none⟩ = some (.int .i64 t390) ∧ w'.cell? ⟨gb393,8,none⟩ = some (.int .i64 t391) ∧ w'.cell? ⟨gb393,9,none⟩ = some (.int .i64 t392) ∧ w'.cell? ⟨gb356,0,none⟩ = some (.int .i64 a0_0) ∧ w'.cell? ⟨gb356,1,none⟩ = some (.int .i64 a0_1) ∧ w'.cell? ⟨gb356,2,none⟩ = some (.slice A0_2 l0_2.length c0_2) ∧ w'.cell? ⟨gb356,3,none⟩ = some (.slice A0_3 l0_3.length c0_3) ∧ w'.cell? ⟨gb356,4,none⟩ = some (.int .i64 a0_4) ∧ w'.cell? ⟨gb356,5,none⟩ = some (.int .i64 a0_5) ∧ w'.cell? ⟨gb356,6,none⟩ = some (.int .i64 a0_6) ∧ w'.cell? ⟨gb356,7,none⟩ = some (.int .i64 a0_7) ∧ w'.cell? ⟨gb356,8,none⟩ = some (.int .i64 a0_8) ∧ w'.cell? ⟨gb356,9,none⟩ = some (.int .i64 a0_9)) (ds := []) (bm 5 0) (by kernel_rfl) rfl rfl ⟨(blk_cell BK393.out 0).trans rfl,(blk_cell BK393.out 1).trans rfl,(blk_cell BK393.out 2).trans rfl,(blk_cell BK393.out 3).trans rfl,(blk_cell BK393.out 4).trans rfl,(blk_cell BK393.out 5).trans rfl,(blk_cell BK393.out 6).trans rfl,(blk_cell BK393.out 7).trans rfl,(blk_cell BK393.out 8).trans rfl,(blk_cell BK393.out 9).trans rfl,(blk_cell BK356.out 0).trans rfl,(blk_cell BK356.out 1).trans rfl,(blk_cell BK356.out 2).trans rfl,(blk_cell BK356.out 3).trans rfl,(blk_cell BK356.out 4).trans rfl,(blk_cell BK356.out 5).trans rfl,(blk_cell BK356.out 6).trans rfl,(blk_cell BK356.out 7).trans rfl,(blk_cell BK356.out 8).trans rfl,(blk_cell BK356.out 9).trans rfl⟩ (fun hHeld => ?_)
      generalize wc.drew = w69 at HO_394002 HO_394003 BK356 BK378 BK393 BK400 HB hHeld ⊢
      refine take_ (i:=0) (N:=some 49) (v:=?_) (a':=?_) (bm 5 1) rfl rfl (by kernel_rfl) (fun _ _ _ h => h) (Or.inl ⟨by rfl,?_⟩) hHeld ?_ ?_
      rotate_left
      ·rintro w' ⟨s0,s1,s2,s3,s4,s5,s6,s7,s8,s9,s10,s11,s12,s13,s14,s15,s16,s17,s18,s19⟩
       go_simp
       with_reducible rfl
      rotate_left
      ·simp only [Act.put,setIfInBounds_toArray,set_cons_zero,set_cons_succ,i64_w,i32_w]
       rfl
      refine take_ (i:=1) (N:=some 50) (v:=?_) (a':=?_) (bm 5 3) rfl rfl (by kernel_rfl) (fun _ _ _ h => h) (Or.inl ⟨by rfl,?_⟩) hHeld ?_ ?_
      rotate_left
      ·rintro w' ⟨s0,s1,s2,s3,s4,s5,s6,s7,s8,s9,s10,s11,s12,s13,s14,s15,s16,s17,s18,s19⟩
       go_simp
       with_reducible rfl
      rotate_left
      ·simp only [Act.put,setIfInBounds_toArray,set_cons_zero,set_cons_succ,i64_w,i32_w]
       rfl
      refine one_ (i:=2) (N:=some 51) (bm 5 7) rfl rfl (by kernel_rfl) (by decide) (fun K hK => ?_)
      refine goes_ Tryd.func8 (by kernel_rfl) rfl #[.agg #[.int .i64 a0_0,.int .i64 a0_1,.slice A0_2 l0_2.length c0_2,.slice A0_3 l0_3.length c0_3,.int .i64 a0_4,.int .i64 a0_5,.int .i64 a0_6,.int .i64 a0_7,.int .i64 a0_8,.int .i64 a0_9]] (by rfl) rfl rfl mA ?_
      with_reducible refine (laws_toState.calls kj11 a0_0 a0_1 _ _ l0_2 _ _ l0_3 a0_4 a0_5 a0_6 a0_7 a0_8 a0_9 t402 t403 t404 t407 t410 t411 t412 t413 t414 t415 _ ?side1 ?side2 ?side3 ?side4 A66.out).mono ?_
      (case side1 => repeat (first | exact (Kd.C_below HR0_2.out HB.out) | (with_reducible refine Kd.C_alloc ?_ _) | (with_reducible refine Kd.C_drewN ?_ _) | (with_reducible refine Kd.C_drew ?_)))
      (case side2 => exact HC0_2.out)
      (case side3 => repeat (first | exact (Kd.C_below HR0_3.out HB.out) | (with_reducible refine Kd.C_alloc ?_ _) | (with_reducible refine Kd.C_drewN ?_ _) | (with_reducible refine Kd.C_drew ?_)))
      (case side4 => exact HC0_3.out)
      rintro e w70 ⟨v405,v408,rfl,ho0,ho1,hb⟩
      refine ⟨_,rfl,?_⟩
      have n0_ := Aside0.mk (Kd.R_elder' (rA HO_394002.out) (Kd.R_base ho0) hb)
      have n1_ := Aside0.mk (Kd.R_elder' (rA HO_394003.out) (Kd.R_base ho1) hb)
      have n2_ := Aside0.mk (Kd.R_lower (Kd.R_newB (Kd.R_newB (Kd.R_new' ho0 (Kd.R_lt (rA HO_394002.out))) (g:=gb378) (o:=.cells #[.int .i64 t372,.int .i64 t373,.int .i64 t374,.string t375] 39 (0,0)) (kA BK378.out)) (g:=gb400) (o:=.cells #[.int .i64 t394,.int .i64 t395,.int .i64 t396,.string t397] 39 (0,0)) (kA BK400.out)) (below_size bA))
      have n3_ := Aside0.mk (Kd.R_lower (Kd.R_new' ho1 (Kd.R_lt (rA HO_394003.out))) (below_size bA))
      have n4_ := Aside0.mk (blk_below (g:=gb356) (o:=.cells #[.int .i64 a0_0,.int .i64 a0_1,.slice A0_2 l0_2.length c0_2,.slice A0_3 l0_3.length c0_3,.int .i64 a0_4,.int .i64 a0_5,.int .i64 a0_6,.int .i64 a0_7,.int .i64 a0_8,.int .i64 a0_9] 26 (0,0)) (kA BK356.out) hb)
      have n5_ := Aside0.mk (blk_below (g:=gb378) (o:=.cells #[.int .i64 t372,.int .i64 t373,.int .i64 t374,.string t375] 39 (0,0)) (kA BK378.out) hb)
      have n6_ := Aside0.mk (blk_below (g:=gb393) (o:=.cells #[.int .i64 t379,.int .i64 t380,.slice Ao30 t381.length co30,.slice Ao31 t384.length co31,.int .i64 t387,.int .i64 t388,.int .i64 t389,.int .i64 t390,.int .i64 t391,.int .i64 t392] 32 (0,0)) (kA BK393.out) hb)
      have n7_ := Aside0.mk (blk_below (g:=gb400) (o:=.cells #[.int .i64 t394,.int .i64 t395,.int .i64 t396,.string t397] 39 (0,0)) (kA BK400.out) hb)
      have n8_ := Aside0.mk (below_step bA hb)
      clear HO_394002
      clear HO_394003
      clear BK356
      clear BK378
      clear BK393
      clear BK400
      clear HB
      have HO_394002 := n0_
      have HO_394003 := n1_
      have HO406 := n2_
      have HO409 := n3_
      have BK356 := n4_
      have BK378 := n5_
      have BK393 := n6_
      have BK400 := n7_
      have HB := n8_
      clear n0_ n1_ n2_ n3_ n4_ n5_ n6_ n7_ n8_
      (try clear hb)
      (try clear hb2)
      (try clear hk)
      (try clear hi)
      (try clear ho0)
      (try clear ho1)
      obtain ⟨Ao71,co71,eo71⟩ := Kd.R_slice HO406.out
      (first | subst eo71 | (injection eo71 with f1_ f2_ f3_; have f4_ := f1_.symm; have f5_ := f3_.symm; clear f1_ f2_ f3_; subst f4_; subst f5_))
      obtain ⟨Ao72,co72,eo72⟩ := Kd.R_slice HO409.out
      (first | subst eo72 | (injection eo72 with f1_ f2_ f3_; have f4_ := f1_.symm; have f5_ := f3_.symm; clear f1_ f2_ f3_; subst f4_; subst f5_))
      refine hK.out _ _ ⟨(blk_cell BK393.out 0).trans rfl,(blk_cell BK393.out 1).trans rfl,(blk_cell BK393.out 2).trans rfl,(blk_cell BK393.out 3).trans rfl,(blk_cell BK393.out 4).trans rfl,(blk_cell BK393.out 5).trans rfl,(blk_cell BK393.out 6).trans rfl,(blk_cell BK393.out 7).trans rfl,(blk_cell BK393.out 8).trans rfl,(blk_cell BK393.out 9).trans rfl,(blk_cell BK356.out 0).trans rfl,(blk_cell BK356.out 1).trans rfl,(blk_cell BK356.out 2).trans rfl,(blk_cell BK356.out 3).trans rfl,(blk_cell BK356.out 4).trans rfl,(blk_cell BK356.out 5).trans rfl,(blk_cell BK356.out 6).trans rfl,(blk_cell BK356.out 7).trans rfl,(blk_cell BK356.out 8).trans rfl,(blk_cell BK356.out 9).trans rfl⟩ (fun hHeld => ?_)
      clear hK K
      refine norm_ (a':=?_) ?_ ?_
      rotate_left
      ·show Act.put _ (some 51) _ = _
       simp only [Act.put,setIfInBounds_toArray,set_cons_zero,set_cons_succ,i64_w,i32_w]
       rfl
      refine one_ (i:=3) (N:=some 52) (bm 5 15) rfl rfl (by kernel_rfl) (by decide) (fun K hK => ?_)
      refine goes_ Tryd.func10 (by kernel_rfl) rfl #[.agg #[.int .i64 t379,.int .i64 t380,.slice Ao30 t381.length co30,.slice Ao31 t384.length co31,.int .i64 t387,.int .i64 t388,.int .i64 t389,.int .i64 t390,.int .i64 t391,.int .i64 t392],.agg #[.int .i64 t402,.int .i64 t403,.slice Ao71 t404.length co71,.slice Ao72 t407.length co72,.int .i64 t410,.int .i64 t411,.int .i64 t412,.int .i64 t413,.int .i64 t414,.int .i64 t415]] (by rfl) rfl rfl mA ?_
      with_reducible refine (laws_eqState.calls kj11 t379 t380 _ _ t381 _ _ t384 t387 t388 t389 t390 t391 t392 t402 t403 _ _ t404 _ _ t407 t410 t411 t412 t413 t414 t415 true _ ?side1 ?side2 ?side3 ?side4 ?side5 ?side6 ?side7 ?side8 A67.out).mono ?_
      (case side1 => repeat (first | exact (Kd.R_reads' HO_394002.out).2.2 | (with_reducible refine Kd.C_alloc ?_ _) | (with_reducible refine Kd.C_drewN ?_ _) | (with_reducible refine Kd.C_drew ?_)))
      (case side2 => exact (Kd.R_reads' HO_394002.out).2.1)
      (case side3 => repeat (first | exact (Kd.R_reads' HO_394003.out).2.2 | (with_reducible refine Kd.C_alloc ?_ _) | (with_reducible refine Kd.C_drewN ?_ _) | (with_reducible refine Kd.C_drew ?_)))
      (case side4 => exact (Kd.R_reads' HO_394003.out).2.1)
      (case side5 => repeat (first | exact (Kd.R_reads' HO406.out).2.2 | (with_reducible refine Kd.C_alloc ?_ _) | (with_reducible refine Kd.C_drewN ?_ _) | (with_reducible refine Kd.C_drew ?_)))
      (case side6 => exact (Kd.R_reads' HO406.out).2.1)
      (case side7 => repeat (first | exact (Kd.R_reads' HO409.out).2.2 | (with_reducible refine Kd.C_alloc ?_ _) | (with_reducible refine Kd.C_drewN ?_ _) | (with_reducible refine Kd.C_drew ?_)))
      (case side8 => exact (Kd.R_reads' HO409.out).2.1)
      rintro e w73 ⟨rfl,hb⟩
      refine ⟨_,rfl,?_⟩
      have n0_ := Aside0.mk (Kd.R_below (rA HO_394002.out) hb)
      have n1_ := Aside0.mk (Kd.R_below (rA HO_394003.out) hb)
      have n2_ := Aside0.mk (Kd.R_below (rA HO406.out) hb)
      have n3_ := Aside0.mk (Kd.R_below (rA HO409.out) hb)
      have n4_ := Aside0.mk (blk_below (g:=gb356) (o:=.cells #[.int .i64 a0_0,.int .i64 a0_1,.slice A0_2 l0_2.length c0_2,.slice A0_3 l0_3.length c0_3,.int .i64 a0_4,.int .i64 a0_5,.int .i64 a0_6,.int .i64 a0_7,.int .i64 a0_8,.int .i64 a0_9] 26 (0,0)) (kA BK356.out) hb)
      have n5_ := Aside0.mk (blk_below (g:=gb378) (o:=.cells #[.int .i64 t372,.int .i64 t373,.int .i64 t374,.string t375] 39 (0,0)) (kA BK378.out) hb)
      have n6_ := Aside0.mk (blk_below (g:=gb393) (o:=.cells #[.int .i64 t379,.int .i64 t380,.slice Ao30 t381.length co30,.slice Ao31 t384.length co31,.int .i64 t387,.int .i64 t388,.int .i64 t389,.int .i64 t390,.int .i64 t391,.int .i64 t392] 32 (0,0)) (kA BK393.out) hb)
      have n7_ := Aside0.mk (blk_below (g:=gb400) (o:=.cells #[.int .i64 t394,.int .i64 t395,.int .i64 t396,.string t397] 39 (0,0)) (kA BK400.out) hb)
      have n8_ := Aside0.mk (below_step bA hb)
      clear HO_394002
      clear HO_394003
      clear HO406
      clear HO409
      clear BK356
      clear BK378
      clear BK393
      clear BK400
      clear HB
      have HO_394002 := n0_
      have HO_394003 := n1_
      have HO406 := n2_
      have HO409 := n3_
      have BK356 := n4_
      have BK378 := n5_
      have BK393 := n6_
      have BK400 := n7_
      have HB := n8_
      clear n0_ n1_ n2_ n3_ n4_ n5_ n6_ n7_ n8_
      (try clear hb)
      (try clear hb2)
      (try clear hk)
      (try clear hi)
      refine hK.out _ _ ⟨(blk_cell BK393.out 0).trans rfl,(blk_cell BK393.out 1).trans rfl,(blk_cell BK393.out 2).trans rfl,(blk_cell BK393.out 3).trans rfl,(blk_cell BK393.out 4).trans rfl,(blk_cell BK393.out 5).trans rfl,(blk_cell BK393.out 6).trans rfl,(blk_cell BK393.out 7).trans rfl,(blk_cell BK393.out 8).trans rfl,(blk_cell BK393.out 9).trans rfl,(blk_cell BK356.out 0).trans rfl,(blk_cell BK356.out 1).trans rfl,(blk_cell BK356.out 2).trans rfl,(blk_cell BK356.out 3).trans rfl,(blk_cell BK356.out 4).trans rfl,(blk_cell BK356.out 5).trans rfl,(blk_cell BK356.out 6).trans rfl,(blk_cell BK356.out 7).trans rfl,(blk_cell BK356.out 8).trans rfl,(blk_cell BK356.out 9).trans rfl⟩ (fun hHeld => ?_)
      clear hK K
      refine norm_ (a':=?_) ?_ ?_
      rotate_left
      ·show Act.put _ (some 52) _ = _
       simp only [Act.put,setIfInBounds_toArray,set_cons_zero,set_cons_succ,i64_w,i32_w]
       rfl
      refine pure_ (i:=4) (N:=some 53) (v:=?_) (a':=?_) (bm 5 31) rfl rfl (by kernel_rfl) (fun _ _ _ h => h) (Or.inl ⟨by rfl,?_⟩) ?_ ?_
      rotate_left
      ·intro w'
       go_simp
       with_reducible rfl
      rotate_left
      ·simp only [Act.put,setIfInBounds_toArray,set_cons_zero,set_cons_succ,i64_w,i32_w]
       rfl
      refine done_ (by kernel_rfl) ?_
      try go_wp2
      go_ret
      exact ⟨by first | rfl | (simp [errW_none,errW_some] <;> rfl) | (simp [*,errW_none,errW_some] <;> rfl),bA⟩
     ·replace c68 := Bool.eq_false_iff.mpr c68
      subst c68
      rw [if_neg (show ¬ (false = true) by decide)] at H
      exact absurd H (by simp)

end Go.Proofs.YtfondhlknkhmmaaDoor.XFnExactExpiredEntry
