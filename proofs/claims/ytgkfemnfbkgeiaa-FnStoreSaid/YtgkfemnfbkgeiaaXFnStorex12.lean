-- Printed by this session's own program wip/tools/xprint.py, which widens the kit's print. Not trusted: Lean checks it.
import Derived.Test.YtgkfemnfbkgeiaaXFnStorex0
import Derived.Test.YtgkfemnfbkgeiaaXFnStorex4
import Derived.Test.YtgkfemnfbkgeiaaXFnStorex10
import Derived.Test.YtgkfemnfbkgeiaaXFnStorex11
namespace Go.Proofs.Ytgkfemnfbkgeiaa.XFnStore
open List (setIfInBounds_toArray set_cons_zero set_cons_succ)
open Go.RowKit Go.Proofs.YtgkfemnfbkgeiaaW.PrintWords Go.Proofs.YtgkfemnfbkgeiaaW.PrintLast Go.Proofs.YtgkfemnfbkgeiaaW.PrintMore
attribute [local go_sem] max2_int min2_int max_two min_two max_three min_three max_four min_four   -- for this text's walks alone
set_option linter.unusedVariables false
set_option linter.unusedSimpArgs false

/-! ### spec_l01Ask: function 37 -/
def spec_l01Ask.f (k : Nat) (l0_0 : List (S32)) (a0_1 : Int) (a1 : ByteArray) : Option (Int) := if (a1.size : Int) > 65536 then (some 2) else ((spec_StoreOK.f k l0_0 a0_1).bind fun t436 => (if t436 = true then ((spec_KeyOK.f k a1).bind fun t437 => (if t437 = true then (some 0) else (some 19))) else (some 1)))
theorem spec_l01Ask.mono : ∀ a0 a1 a2 k,LeO (spec_l01Ask.f k a0 a1 a2) (spec_l01Ask.f (k + 1) a0 a1 a2) := by
 intro a0 a1 a2 k
 unfold spec_l01Ask.f
 repeat' first
 | (with_reducible first | exact spec_KeyOK.mono .. | exact spec_StoreOK.mono .. | exact LeO.refl _ | exact LeO.none _ | refine LeO.ite ?_ ?_ | refine LeO.bind ?_ (fun _ => ?_))
 | exact LeO.none _ | refine LeO.ite ?_ ?_ | refine LeO.bind ?_ (fun _ => ?_)
set_option maxHeartbeats 8000000 in
set_option maxRecDepth 100000 in
theorem spec_l01Ask.calls (k : Nat) (A0_0 : Option Addr) (c0_0 : Nat) (l0_0 : List (S32)) (a0_1 : Int) (a1 : ByteArray) (r : Int) (w : World) (hr0_0 : Kd.C k32 w A0_0 l0_0.length l0_0) (hc0_0 : l0_0.length ≤ c0_0) (h : spec_l01Ask.f k l0_0 a0_1 a1 = some r) :
  Calls Try.prog 37 #[.agg #[.slice A0_0 l0_0.length c0_0,.int .i64 a0_1],.string a1] w fun e w' => e = .returned (.int .i64 r) ∧ Below w.heap.size w w' := by
 have hu25 := Try.underlying25
 have HR0_0 := Aside0.mk hr0_0
 have HC0_0 := Aside0.mk hc0_0
 clear hr0_0 hc0_0
 have HB := Aside0.mk (Below.refl w.heap.size w)
 have H : (if (a1.size : Int) > 65536 then (some 2) else ((spec_StoreOK.f k l0_0 a0_1).bind fun t436 => (if t436 = true then ((spec_KeyOK.f k a1).bind fun t437 => (if t437 = true then (some 0) else (some 19))) else (some 1)))) = some r := h
 clear h
 by_cases c3 : (a1.size : Int) > 65536
 ·rw [if_pos c3] at H
  have c3b0 : decide (65536 < (a1.size : Int)) = true := decide_eq_true c3
  have c3b1 : decide (65536 < a1.size) = true := decide_eq_true (by omega)
  clear c3
  obtain rfl := Option.some.inj H
  go_enter Try.func37,Try.ntmps37
  go_wp2_with (first | ((with_reducible refine gate_dst (N:=2) rfl ?_); refine bxe (N:=2) (cs := #[.slice A0_0 l0_0.length c0_0,.int .i64 a0_1]) (t:=25) ?_; intro gb435 hg w4 hbox hb; have BK435 := Aside0.mk (hbox); have GW435 := Aside0.mk ((gw hg : w.heap.size ≤ gb435)); have GE435 := GW435; replace HB := bsA hb; clear hb hbox hg))
  go_ret
  exact ⟨by first | rfl | (simp [errW_none,errW_some] <;> rfl) | (simp [*,errW_none,errW_some] <;> rfl),bA⟩
 ·rw [if_neg c3] at H
  have c3b0 : decide (65536 < (a1.size : Int)) = false := decide_eq_false c3
  have c3b1 : decide (65536 < a1.size) = false := decide_eq_false (by omega)
  clear c3
  replace H := Option.bind_eq_some_iff.mp H
  obtain ⟨t436,A50,H⟩ := H
  try dsimp only at H
  have A5 := Aside0.mk A50
  clear A50
  by_cases c6 : t436 = true
  ·subst c6
   rw [if_pos rfl] at H
   replace H := Option.bind_eq_some_iff.mp H
   obtain ⟨t437,A70,H⟩ := H
   try dsimp only at H
   have A7 := Aside0.mk A70
   clear A70
   by_cases c8 : t437 = true
   ·subst c8
    rw [if_pos rfl] at H
    obtain rfl := Option.some.inj H
    go_enter Try.func37,Try.ntmps37
    go_wp2_with (first | ((with_reducible refine gate_dst (N:=2) rfl ?_); refine bxe (N:=2) (cs := #[.slice A0_0 l0_0.length c0_0,.int .i64 a0_1]) (t:=25) ?_; intro gb435 hg w9 hbox hb; have BK435 := Aside0.mk (hbox); have GW435 := Aside0.mk ((gw hg : w.heap.size ≤ gb435)); have GE435 := GW435; replace HB := bsA hb; clear hb hbox hg; obtain ⟨hcz10_0,hcz10_1⟩ := cl2 BK435.out; obtain ⟨hfz10_0,hfz10_1⟩ := fz2 BK435.out) | ((with_reducible refine gate_callee (f:=30) rfl ?_); refine goesL_ (some 11) rfl rfl Try.func30 (by kernel_rfl) rfl #[.agg #[.slice A0_0 l0_0.length c0_0,.int .i64 a0_1]] rfl mA ?_; (with_reducible refine (spec_StoreOK.calls k _ _ l0_0 a0_1 true _ ?side1 ?side2 A5.out).mono ?_); (case side1 => exact sC HR0_0.out); (case side2 => exact HC0_0.out); rintro e w11 ⟨rfl,hb⟩; refine ⟨_,rfl,?_⟩; replace BK435 := bbA BK435 hb; replace HB := bsA hb; clear hb) | ((with_reducible refine gate_callee (f:=56) rfl ?_); refine goesL_ (some 15) rfl rfl Try.func56 (by kernel_rfl) rfl #[.string a1] rfl mA ?_; (with_reducible refine (spec_KeyOK.calls k a1 true _ A7.out).mono ?_); rintro e w' ⟨rfl,⟨nd,rfl⟩⟩; refine ⟨_,rfl,?_⟩))
    go_ret
    exact ⟨by first | rfl | (simp [errW_none,errW_some] <;> rfl) | (simp [*,errW_none,errW_some] <;> rfl),bA⟩
   ·replace c8 := Bool.eq_false_iff.mpr c8
    subst c8
    rw [if_neg (show ¬ (false = true) by decide)] at H
    obtain rfl := Option.some.inj H
    go_enter Try.func37,Try.ntmps37
    go_wp2_with (first | ((with_reducible refine gate_dst (N:=2) rfl ?_); refine bxe (N:=2) (cs := #[.slice A0_0 l0_0.length c0_0,.int .i64 a0_1]) (t:=25) ?_; intro gb435 hg w12 hbox hb; have BK435 := Aside0.mk (hbox); have GW435 := Aside0.mk ((gw hg : w.heap.size ≤ gb435)); have GE435 := GW435; replace HB := bsA hb; clear hb hbox hg; obtain ⟨hcz13_0,hcz13_1⟩ := cl2 BK435.out; obtain ⟨hfz13_0,hfz13_1⟩ := fz2 BK435.out) | ((with_reducible refine gate_callee (f:=30) rfl ?_); refine goesL_ (some 11) rfl rfl Try.func30 (by kernel_rfl) rfl #[.agg #[.slice A0_0 l0_0.length c0_0,.int .i64 a0_1]] rfl mA ?_; (with_reducible refine (spec_StoreOK.calls k _ _ l0_0 a0_1 true _ ?side1 ?side2 A5.out).mono ?_); (case side1 => exact sC HR0_0.out); (case side2 => exact HC0_0.out); rintro e w14 ⟨rfl,hb⟩; refine ⟨_,rfl,?_⟩; replace BK435 := bbA BK435 hb; replace HB := bsA hb; clear hb) | ((with_reducible refine gate_callee (f:=56) rfl ?_); refine goesL_ (some 15) rfl rfl Try.func56 (by kernel_rfl) rfl #[.string a1] rfl mA ?_; (with_reducible refine (spec_KeyOK.calls k a1 false _ A7.out).mono ?_); rintro e w' ⟨rfl,⟨nd,rfl⟩⟩; refine ⟨_,rfl,?_⟩))
    go_ret
    exact ⟨by first | rfl | (simp [errW_none,errW_some] <;> rfl) | (simp [*,errW_none,errW_some] <;> rfl),bA⟩
  ·replace c6 := Bool.eq_false_iff.mpr c6
   subst c6
   rw [if_neg (show ¬ (false = true) by decide)] at H
   obtain rfl := Option.some.inj H
   go_enter Try.func37,Try.ntmps37
   go_wp2_with (first | ((with_reducible refine gate_dst (N:=2) rfl ?_); refine bxe (N:=2) (cs := #[.slice A0_0 l0_0.length c0_0,.int .i64 a0_1]) (t:=25) ?_; intro gb435 hg w15 hbox hb; have BK435 := Aside0.mk (hbox); have GW435 := Aside0.mk ((gw hg : w.heap.size ≤ gb435)); have GE435 := GW435; replace HB := bsA hb; clear hb hbox hg; obtain ⟨hcz16_0,hcz16_1⟩ := cl2 BK435.out; obtain ⟨hfz16_0,hfz16_1⟩ := fz2 BK435.out) | ((with_reducible refine gate_callee (f:=30) rfl ?_); refine goesL_ (some 11) rfl rfl Try.func30 (by kernel_rfl) rfl #[.agg #[.slice A0_0 l0_0.length c0_0,.int .i64 a0_1]] rfl mA ?_; (with_reducible refine (spec_StoreOK.calls k _ _ l0_0 a0_1 false _ ?side1 ?side2 A5.out).mono ?_); (case side1 => exact sC HR0_0.out); (case side2 => exact HC0_0.out); rintro e w17 ⟨rfl,hb⟩; refine ⟨_,rfl,?_⟩; replace BK435 := bbA BK435 hb; replace HB := bsA hb; clear hb))
   go_ret
   exact ⟨by first | rfl | (simp [errW_none,errW_some] <;> rfl) | (simp [*,errW_none,errW_some] <;> rfl),bA⟩

/-! ### spec_PutAbsent: function 13 -/
def spec_PutAbsent.f (k : Nat) (l0_0 : List (S32)) (a0_1 : Int) (a1 : ByteArray) (a2 : ByteArray) : Option ((List (S32)) × Int × Int × Int) := if (a1.size : Int) > 65536 then (some (([] : List (S32)),0,0,2)) else (if (a2.size : Int) > 65536 then (some (([] : List (S32)),0,0,2)) else ((spec_l01Ask.f k l0_0 a0_1 a1).bind fun t440 => (if t440 = 0 then ((spec_l01Absent.f k l0_0 a0_1 a1 a2).bind fun bt441 => (if bt441.2.2 = 0 then ((spec_l01Own.f bt441.1 bt441.2.1).bind fun bt447 => (some (bt447.1,bt447.2,a0_1,0))) else ((spec_l01Own.f bt441.1 bt441.2.1).bind fun bt451 => (some (bt451.1,bt451.2,0,bt441.2.2))))) else (some (([] : List (S32)),0,0,t440)))))
theorem spec_PutAbsent.mono : ∀ a0 a1 a2 a3 k,LeO (spec_PutAbsent.f k a0 a1 a2 a3) (spec_PutAbsent.f (k + 1) a0 a1 a2 a3) := by
 intro a0 a1 a2 a3 k
 unfold spec_PutAbsent.f
 repeat' first
 | (with_reducible first | exact spec_l01Absent.mono .. | exact spec_l01Ask.mono .. | exact LeO.refl _ | exact LeO.none _ | refine LeO.ite ?_ ?_ | refine LeO.bind ?_ (fun _ => ?_))
 | exact LeO.none _ | refine LeO.ite ?_ ?_ | refine LeO.bind ?_ (fun _ => ?_)
set_option maxHeartbeats 8000000 in
set_option maxRecDepth 100000 in
theorem spec_PutAbsent.calls (k : Nat) (A0_0 : Option Addr) (c0_0 : Nat) (l0_0 : List (S32)) (a0_1 : Int) (a1 : ByteArray) (a2 : ByteArray) (r1 : List (S32)) (r2 : Int) (r3 : Int) (r4 : Int) (w : World) (hr0_0 : Kd.C k32 w A0_0 l0_0.length l0_0) (hc0_0 : l0_0.length ≤ c0_0) (h : spec_PutAbsent.f k l0_0 a0_1 a1 a2 = some (r1,r2,r3,r4)) :
  Calls Try.prog 13 #[.agg #[.slice A0_0 l0_0.length c0_0,.int .i64 a0_1],.string a1,.string a2] w fun e w' => ∃ v0_ : Value,e = .returned (.tuple #[.agg #[v0_,.int .i64 r2],.int .i64 r3,.int .i64 r4]) ∧ Kd.R k32 32 w' w.heap.size (fun _ => True) v0_ r1 ∧ Below w.heap.size w w' := by
 have hu25 := Try.underlying25
 have HR0_0 := Aside0.mk hr0_0
 have HC0_0 := Aside0.mk hc0_0
 clear hr0_0 hc0_0
 have HB := Aside0.mk (Below.refl w.heap.size w)
 have H : (if (a1.size : Int) > 65536 then (some (([] : List (S32)),0,0,2)) else (if (a2.size : Int) > 65536 then (some (([] : List (S32)),0,0,2)) else ((spec_l01Ask.f k l0_0 a0_1 a1).bind fun t440 => (if t440 = 0 then ((spec_l01Absent.f k l0_0 a0_1 a1 a2).bind fun bt441 => (if bt441.2.2 = 0 then ((spec_l01Own.f bt441.1 bt441.2.1).bind fun bt447 => (some (bt447.1,bt447.2,a0_1,0))) else ((spec_l01Own.f bt441.1 bt441.2.1).bind fun bt451 => (some (bt451.1,bt451.2,0,bt441.2.2))))) else (some (([] : List (S32)),0,0,t440)))))) = some (r1,r2,r3,r4) := h
 clear h
 by_cases c4 : (a1.size : Int) > 65536
 ·rw [if_pos c4] at H
  have c4b0 : decide (65536 < (a1.size : Int)) = true := decide_eq_true c4
  have c4b1 : decide (65536 < a1.size) = true := decide_eq_true (by omega)
  clear c4
  simp only [Option.some.injEq,Prod.mk.injEq] at H
  obtain ⟨rfl,rfl,rfl,rfl⟩ := H
  go_enter Try.func13,Try.ntmps13
  go_wp2_with (first | ((with_reducible refine gate_dst (N:=3) rfl ?_); refine bxe (N:=3) (cs := #[.slice A0_0 l0_0.length c0_0,.int .i64 a0_1]) (t:=25) ?_; intro gb438 hg w5 hbox hb; have BK438 := Aside0.mk (hbox); have GW438 := Aside0.mk ((gw hg : w.heap.size ≤ gb438)); have GE438 := GW438; replace HB := bsA hb; clear hb hbox hg) | ((with_reducible refine gate_dst (N:=6) rfl ?_); refine bxe (N:=6) (cs := #[.slice none 0 0,.int .i64 0]) (t:=25) ?_; intro gb439 hg w6 hbox hb; have BK439 := Aside0.mk (hbox); have GW439 := Aside0.mk ((gw hg : w.heap.size ≤ gb439)); have GE439 := GW439; replace HB := bsA hb; have NB438_439 := Aside0.mk ((nl hg BK438.out)); have NB439_438 := Aside0.mk ((ng hg BK438.out)); replace BK438 := bbA BK438 hb; clear hb hbox hg; have hnb7 := NB439_438.out; have hnc7 := NB438_439.out; obtain ⟨hcz8_0,hcz8_1⟩ := cl2 BK439.out; obtain ⟨hfz8_0,hfz8_1⟩ := fz2 BK439.out))
  refine bodyPost_ret (results_ctt rfl _ _ gb439 25 #[.slice none 0 0,.int .i64 0] (0,0) _ rfl (kP2 BK439.out) Try.underlying25 rfl (by kernel_rfl)) rfl ?_
  exact ⟨_,by first | rfl | (simp [errW_none,errW_some] <;> rfl) | (simp [*,errW_none,errW_some] <;> rfl),by first | exact Kd.R_nil _ _ _ _ _ | exact Kd.N_nil _ _ _ _ _ | exact Kd.V_nil _ _ _ _ _ | exact Kd.Q_nil _ _ _ _ _ | exact Kd.S_nil _ _ _ _ _,bA⟩
 ·rw [if_neg c4] at H
  have c4b0 : decide (65536 < (a1.size : Int)) = false := decide_eq_false c4
  have c4b1 : decide (65536 < a1.size) = false := decide_eq_false (by omega)
  clear c4
  by_cases c9 : (a2.size : Int) > 65536
  ·rw [if_pos c9] at H
   have c9b0 : decide (65536 < (a2.size : Int)) = true := decide_eq_true c9
   have c9b1 : decide (65536 < a2.size) = true := decide_eq_true (by omega)
   clear c9
   simp only [Option.some.injEq,Prod.mk.injEq] at H
   obtain ⟨rfl,rfl,rfl,rfl⟩ := H
   go_enter Try.func13,Try.ntmps13
   go_wp2_with (first | ((with_reducible refine gate_dst (N:=3) rfl ?_); refine bxe (N:=3) (cs := #[.slice A0_0 l0_0.length c0_0,.int .i64 a0_1]) (t:=25) ?_; intro gb438 hg w10 hbox hb; have BK438 := Aside0.mk (hbox); have GW438 := Aside0.mk ((gw hg : w.heap.size ≤ gb438)); have GE438 := GW438; replace HB := bsA hb; clear hb hbox hg) | ((with_reducible refine gate_dst (N:=6) rfl ?_); refine bxe (N:=6) (cs := #[.slice none 0 0,.int .i64 0]) (t:=25) ?_; intro gb439 hg w11 hbox hb; have BK439 := Aside0.mk (hbox); have GW439 := Aside0.mk ((gw hg : w.heap.size ≤ gb439)); have GE439 := GW439; replace HB := bsA hb; have NB438_439 := Aside0.mk ((nl hg BK438.out)); have NB439_438 := Aside0.mk ((ng hg BK438.out)); replace BK438 := bbA BK438 hb; clear hb hbox hg; have hnb12 := NB439_438.out; have hnc12 := NB438_439.out; obtain ⟨hcz13_0,hcz13_1⟩ := cl2 BK439.out; obtain ⟨hfz13_0,hfz13_1⟩ := fz2 BK439.out))
   refine bodyPost_ret (results_ctt rfl _ _ gb439 25 #[.slice none 0 0,.int .i64 0] (0,0) _ rfl (kP2 BK439.out) Try.underlying25 rfl (by kernel_rfl)) rfl ?_
   exact ⟨_,by first | rfl | (simp [errW_none,errW_some] <;> rfl) | (simp [*,errW_none,errW_some] <;> rfl),by first | exact Kd.R_nil _ _ _ _ _ | exact Kd.N_nil _ _ _ _ _ | exact Kd.V_nil _ _ _ _ _ | exact Kd.Q_nil _ _ _ _ _ | exact Kd.S_nil _ _ _ _ _,bA⟩
  ·rw [if_neg c9] at H
   have c9b0 : decide (65536 < (a2.size : Int)) = false := decide_eq_false c9
   have c9b1 : decide (65536 < a2.size) = false := decide_eq_false (by omega)
   clear c9
   replace H := Option.bind_eq_some_iff.mp H
   obtain ⟨t440,A140,H⟩ := H
   try dsimp only at H
   have A14 := Aside0.mk A140
   clear A140
   by_cases c15 : t440 = 0
   ·rw [if_pos c15] at H
    have c15b0 : (t440 == 0) = true := beq_iff_eq.mpr c15
    have c15b1 : (t440 != 0) = false := bne_eq_false_iff_eq.mpr c15
    clear c15
    replace H := Option.bind_eq_some_iff.mp H
    obtain ⟨⟨t441,t444,t445⟩,A160,H⟩ := H
    try dsimp only at H
    have A16 := Aside0.mk A160
    clear A160
    by_cases c17 : t445 = 0
    ·rw [if_pos c17] at H
     have c17b0 : (t445 == 0) = true := beq_iff_eq.mpr c17
     have c17b1 : (t445 != 0) = false := bne_eq_false_iff_eq.mpr c17
     clear c17
     replace H := Option.bind_eq_some_iff.mp H
     obtain ⟨⟨t447,t450⟩,A180,H⟩ := H
     try dsimp only at H
     have A18 := Aside0.mk A180
     clear A180
     simp only [Option.some.injEq,Prod.mk.injEq] at H
     obtain ⟨rfl,rfl,rfl,rfl⟩ := H
     go_enter Try.func13,Try.ntmps13
     try go_wp2_with (first | ((with_reducible refine gate_dst (N:=3) rfl ?_); refine bxe (N:=3) (cs := #[.slice A0_0 l0_0.length c0_0,.int .i64 a0_1]) (t:=25) ?_; intro gb438 hg w19 hbox hb; have BK438 := Aside0.mk (hbox); have GW438 := Aside0.mk ((gw hg : w.heap.size ≤ gb438)); have GE438 := GW438; replace HB := bsA hb; clear hb hbox hg) | ((with_reducible refine gate_dst (N:=6) rfl ?_); refine bxe (N:=6) (cs := #[.slice none 0 0,.int .i64 0]) (t:=25) ?_; intro gb439 hg w20 hbox hb; have BK439 := Aside0.mk (hbox); have GW439 := Aside0.mk ((gw hg : w.heap.size ≤ gb439)); have GE439 := GW439; replace HB := bsA hb; have NB438_439 := Aside0.mk ((nl hg BK438.out)); have NB439_438 := Aside0.mk ((ng hg BK438.out)); replace BK438 := bbA BK438 hb; clear hb hbox hg; have hnb21 := NB438_439.out; have hnc21 := NB439_438.out; obtain ⟨hcz22_0,hcz22_1⟩ := cl2 BK438.out; obtain ⟨hfz22_0,hfz22_1⟩ := fz2 BK438.out) | ((with_reducible refine gate_callee (f:=37) rfl ?_); refine goesL_ (some 22) rfl rfl Try.func37 (by kernel_rfl) rfl #[.agg #[.slice A0_0 l0_0.length c0_0,.int .i64 a0_1],.string a1] rfl mA ?_; (with_reducible refine (spec_l01Ask.calls k _ _ l0_0 a0_1 a1 t440 _ ?side1 ?side2 A14.out).mono ?_); (case side1 => exact sC HR0_0.out); (case side2 => exact HC0_0.out); rintro e w23 ⟨rfl,hb⟩; refine ⟨_,rfl,?_⟩; replace BK438 := bbA BK438 hb; replace BK439 := bbA BK439 hb; replace HB := bsA hb; clear hb; obtain ⟨hcz24_0,hcz24_1⟩ := cl2 BK438.out; obtain ⟨hfz24_0,hfz24_1⟩ := fz2 BK438.out) | ((with_reducible refine gate_callee (f:=38) rfl ?_); refine goesL_ (some 31) rfl rfl Try.func38 (by kernel_rfl) rfl #[.agg #[.slice A0_0 l0_0.length c0_0,.int .i64 a0_1],.string a1,.string a2] rfl mA ?_; (with_reducible refine (spec_l01Absent.calls k (fun k_ => k_ < w.heap.size) _ _ l0_0 a0_1 a1 a2 t441 t444 t445 _ ?side1 A16.out).mono ?_); (case side1 => exact Kd.V_mk HC0_0.out (Kd.F_below (Kd.C_F k32_heap HR0_0.out) bA)); rintro e w25 ⟨v442,rfl,ho0,hb⟩; refine ⟨_,rfl,?_⟩; have HO443 := Aside0.mk (Kd.V_lower (Kd.V_mono (ok' := fun k_ => k_ ≠ gb438 ∧ k_ ≠ gb439) ho0 (fun k_ hk_ => ⟨Or.elim hk_ (fun hs_ => fun e_ => Nat.not_le.2 hs_ (by rw [e_]; exact GW438.out)) (fun hn_ => (fB BK438.out k_ hn_)),Or.elim hk_ (fun hs_ => fun e_ => Nat.not_le.2 hs_ (by rw [e_]; exact GW439.out)) (fun hn_ => (fB BK439.out k_ hn_))⟩)) (below_size bA)); replace BK438 := bbA BK438 hb; replace BK439 := bbA BK439 hb; replace HB := bsA hb; clear hb; (try clear ho0)) | ((with_reducible refine gate_dst (N:=10) rfl ?_); refine bxe (N:=10) (cs := #[.slice none 0 0,.int .i64 0]) (t:=25) ?_; intro gb446 hg w26 hbox hb; replace HO443 := Aside0.mk (Kd.V_below (Kd.V_elderB (vA HO443.out) gb446 (Nat.le_of_eq hg.symm)) hb); have BK446 := Aside0.mk (hbox); have GW446 := Aside0.mk ((gw hg : w.heap.size ≤ gb446)); have GE446 := GW446; replace HB := bsA hb; have NB438_446 := Aside0.mk ((nl hg BK438.out)); have NB446_438 := Aside0.mk ((ng hg BK438.out)); replace BK438 := bbA BK438 hb; have NB439_446 := Aside0.mk ((nl hg BK439.out)); have NB446_439 := Aside0.mk ((ng hg BK439.out)); replace BK439 := bbA BK439 hb; clear hb hbox hg; obtain ⟨Ao27,co27,eo27⟩ := Kd.V_slice HO443.out; subst eo27; have hnb28 := NB446_438.out; have hnc28 := NB438_446.out; have hnb29 := NB446_439.out; have hnc29 := NB439_446.out; obtain ⟨hcz30_0,hcz30_1⟩ := cl2 BK446.out; obtain ⟨hfz30_0,hfz30_1⟩ := fz2 BK446.out))
     have n0_ : Aside0 (Kd.V k32 32 ((w26.setCell ⟨gb446,0,none⟩ (.slice Ao27 t441.length co27)).setCell ⟨gb446,1,none⟩ (.int .i64 t444)) w.heap.size (fun k_ => k_ ≠ gb438 ∧ k_ ≠ gb439 ∧ k_ ≠ gb446) (.slice Ao27 t441.length co27) t441) := ⟨by (with_reducible repeat (first | apply Kd.V_alloc | apply Kd.V_drewN | apply Kd.V_drew)); exact Kd.V_mono (Kd.V_far (p:=⟨gb446,1,none⟩) (Kd.V_far (p:=⟨gb446,0,none⟩) (Kd.V_mono HO443.out (fun k_ hk => (⟨hk,hk.2⟩ : _ ∧ k_ ≠ gb446))) (fun _ hk => hk.2) (.slice Ao27 t441.length co27)) (fun _ hk => hk.2) (.int .i64 t444)) (fun _ hk => ⟨hk.1.1.1,⟨hk.1.1.2,hk.1.2⟩⟩)⟩
     have n1_ : Aside0 (((w26.setCell ⟨gb446,0,none⟩ (.slice Ao27 t441.length co27)).setCell ⟨gb446,1,none⟩ (.int .i64 t444)).heap[gb438]? = some (.cells #[.slice A0_0 l0_0.length c0_0,.int .i64 a0_1] 25 (0,0))) := ⟨kF BK438.out⟩
     have n2_ : Aside0 (((w26.setCell ⟨gb446,0,none⟩ (.slice Ao27 t441.length co27)).setCell ⟨gb446,1,none⟩ (.int .i64 t444)).heap[gb439]? = some (.cells #[.slice none 0 0,.int .i64 0] 25 (0,0))) := ⟨kF BK439.out⟩
     have n3_ : Aside0 (((w26.setCell ⟨gb446,0,none⟩ (.slice Ao27 t441.length co27)).setCell ⟨gb446,1,none⟩ (.int .i64 t444)).heap[gb446]? = some (.cells #[.slice Ao27 t441.length co27,.int .i64 t444] 25 (0,0))) := ⟨by (with_reducible repeat (first | refine blk_drewN ?_ _ | refine blk_drew ?_ | refine blk_alloc ?_ _)); apply blkp2; (with_reducible repeat (first | refine blk_drewN ?_ _ | refine blk_drew ?_ | refine blk_alloc ?_ _)); exact BK446.out⟩
     have n4_ : Aside0 (Below w.heap.size w ((w26.setCell ⟨gb446,0,none⟩ (.slice Ao27 t441.length co27)).setCell ⟨gb446,1,none⟩ (.int .i64 t444))) := ⟨bA⟩
     (try clear HO443)
     (try clear BK438)
     (try clear BK439)
     (try clear BK446)
     (try clear HB)
     generalize ((w26.setCell ⟨gb446,0,none⟩ (.slice Ao27 t441.length co27)).setCell ⟨gb446,1,none⟩ (.int .i64 t444)) = w31 at n0_ n1_ n2_ n3_ n4_ ⊢
     have HO443 := n0_
     have BK438 := n1_
     have BK439 := n2_
     have BK446 := n3_
     have HB := n4_
     clear n0_ n1_ n2_ n3_ n4_
     replace HO443 := Aside0.mk (Kd.V_drew HO443.out)
     replace BK438 := Aside0.mk (blk_drew BK438.out)
     replace BK439 := Aside0.mk (blk_drew BK439.out)
     replace BK446 := Aside0.mk (blk_drew BK446.out)
     replace HB := Aside0.mk (below_drew1 HB.out)
     refine start_ (n:=7) (S:=fun w' => w'.cell? ⟨gb446,0,none⟩ = some (.slice Ao27 t441.length co27) ∧ w'.cell? ⟨gb446,1,none⟩ = some (.int .i64 t444) ∧ w'.cell? ⟨gb438,0,none⟩ = some (.slice A0_0 l0_0.length c0_0) ∧ w'.cell? ⟨gb438,1,none⟩ = some (.int .i64 a0_1)) (ds := []) (bm 7 0) (by kernel_rfl) rfl rfl ⟨bl BK446 0,bl BK446 1,bl BK438 0,bl BK438 1⟩ (fun hHeld => ?_)
     generalize w31.drew = w32 at HO443 BK438 BK439 BK446 HB hHeld ⊢
     refine pure_ (i:=2) (N:=some 41) (v:=?_) (a':=?_) (bm 7 4) rfl rfl (by kernel_rfl) (fun _ _ _ h => h) (Or.inl ⟨by rfl,?_⟩) ?_ ?_
     rotate_left
     ·intro w'
      go_simp
      with_reducible rfl
     rotate_left
     ·simp only [Act.put,setIfInBounds_toArray,set_cons_zero,set_cons_succ,i64_w,i32_w]
      rfl
     refine take_ (i:=0) (N:=some 39) (v:=?_) (a':=?_) (bm 7 5) rfl rfl (by kernel_rfl) (fun _ _ _ h => h) (Or.inl ⟨by rfl,?_⟩) hHeld ?_ ?_
     rotate_left
     ·rintro w' ⟨s0,s1,s2,s3⟩
      go_simp
      with_reducible rfl
     rotate_left
     ·simp only [Act.put,setIfInBounds_toArray,set_cons_zero,set_cons_succ,i64_w,i32_w]
      rfl
     refine take_ (i:=3) (N:=some 42) (v:=?_) (a':=?_) (bm 7 13) rfl rfl (by kernel_rfl) (fun _ _ _ h => h) (Or.inl ⟨by rfl,?_⟩) hHeld ?_ ?_
     rotate_left
     ·rintro w' ⟨s0,s1,s2,s3⟩
      go_simp
      with_reducible rfl
     rotate_left
     ·simp only [Act.put,setIfInBounds_toArray,set_cons_zero,set_cons_succ,i64_w,i32_w]
      rfl
     refine one_ (i:=1) (N:=some 40) (bm 7 15) rfl rfl (by kernel_rfl) (by decide) (fun K hK => ?_)
     refine goes_ Try.func39 (by kernel_rfl) rfl #[.agg #[.slice Ao27 t441.length co27,.int .i64 t444]] (by rfl) rfl rfl mA ?_
     with_reducible refine (spec_l01Own.calls _ _ t441 t444 t447 t450 _ ?side1 ?side2 A18.out).mono ?_
     (case side1 => repeat (first | exact (Kd.V_reads' HO443.out).2.2 | (with_reducible refine Kd.C_alloc ?_ _) | (with_reducible refine Kd.C_drewN ?_ _) | (with_reducible refine Kd.C_drew ?_)))
     (case side2 => exact (Kd.V_reads' HO443.out).2.1)
     rintro e w33 ⟨v448,rfl,ho0,hb⟩
     refine ⟨_,rfl,?_⟩
     replace HO443 := Aside0.mk (Kd.V_elder' (vA HO443.out) (Kd.R_base ho0) hb)
     have HO449 := Aside0.mk (Kd.R_lower ho0 (below_size bA))
     replace BK438 := bbA BK438 hb
     replace BK439 := bbA BK439 hb
     replace BK446 := bbA BK446 hb
     replace HB := bsA hb
     clear hb
     (try clear ho0)
     obtain ⟨Ao34,co34,eo34⟩ := Kd.R_slice HO449.out
     (first | subst eo34 | (injection eo34 with f1_ f2_ f3_; have f4_ := f1_.symm; have f5_ := f3_.symm; clear f1_ f2_ f3_; subst f4_; subst f5_))
     refine hK.out _ _ ⟨bl BK446 0,bl BK446 1,bl BK438 0,bl BK438 1⟩ (fun hHeld => ?_)
     clear hK K
     refine nw 40 ?_
     refine one_ (i:=4) (N:=none) (bm 7 31) rfl rfl (by kernel_rfl) (by decide) (fun K hK => ?_)
     have hs35 : w33.cell? ⟨gb439,0,none⟩ = some (.slice none 0 0) := bl BK439 0
     have hfs35 := blk_frozen BK439.out 0
     have hns35_0 := NB438_439.out
     have hns35_2 := NB446_439.out
     have hms35_0 := NB439_438.out
     have hms35_2 := NB439_446.out
     have hs36 : w33.cell? ⟨gb439,1,none⟩ = some (.int .i64 0) := bl BK439 1
     have hfs36 := blk_frozen BK439.out 1
     have hns36_0 := NB438_439.out
     have hns36_2 := NB446_439.out
     have hms36_0 := NB439_438.out
     have hms36_2 := NB439_446.out
     refine skip_ (w1 := ?_) (by rfl) rfl ?_ ?_
     rotate_left
     ·go_simp
      rfl
     refine hK.out _ _ ⟨((cell_far (p:=⟨gb439,_,none⟩) NB446_439.out _).trans (((cell_far (p:=⟨gb439,_,none⟩) NB446_439.out _).trans (hHeld.1)))),((cell_far (p:=⟨gb439,_,none⟩) NB446_439.out _).trans (((cell_far (p:=⟨gb439,_,none⟩) NB446_439.out _).trans (hHeld.2.1)))),((cell_far (p:=⟨gb439,_,none⟩) NB438_439.out _).trans (((cell_far (p:=⟨gb439,_,none⟩) NB438_439.out _).trans (hHeld.2.2.1)))),((cell_far (p:=⟨gb439,_,none⟩) NB438_439.out _).trans (((cell_far (p:=⟨gb439,_,none⟩) NB438_439.out _).trans (hHeld.2.2.2))))⟩ (fun hHeld => ?_)
     clear hK K
     refine pure_ (i:=5) (N:=some 7) (v:=?_) (a':=?_) (bm 7 63) rfl rfl (by kernel_rfl) (fun _ _ _ h => h) (Or.inl ⟨by rfl,?_⟩) ?_ ?_
     rotate_left
     ·intro w'
      go_simp
      with_reducible rfl
     rotate_left
     ·simp only [Act.put,setIfInBounds_toArray,set_cons_zero,set_cons_succ,i64_w,i32_w]
      rfl
     refine pure_ (i:=6) (N:=some 8) (v:=?_) (a':=?_) (bm 7 127) rfl rfl (by kernel_rfl) (fun _ _ _ h => h) (Or.inl ⟨by rfl,?_⟩) ?_ ?_
     rotate_left
     ·intro w'
      go_simp
      with_reducible rfl
     rotate_left
     ·simp only [Act.put,setIfInBounds_toArray,set_cons_zero,set_cons_succ,i64_w,i32_w]
      rfl
     refine done_ (by kernel_rfl) ?_
     try go_wp2
     refine bodyPost_ret (results_ctt rfl _ _ gb439 25 #[.slice Ao34 t447.length co34,.int .i64 t450] (0,0) _ rfl (kP2 BK439.out) Try.underlying25 rfl (by kernel_rfl)) rfl ?_
     exact ⟨_,by first | rfl | (simp [errW_none,errW_some] <;> rfl) | (simp [*,errW_none,errW_some] <;> rfl),by (with_reducible repeat (first | apply Kd.R_alloc | apply Kd.R_drewN | apply Kd.R_drew)); exact Kd.R_mono (Kd.R_far (p:=⟨gb439,1,none⟩) (Kd.R_far (p:=⟨gb439,0,none⟩) (Kd.R_types HO449.out BK439.out (by decide)) (fun _ hk => hk.2) (.slice Ao34 t447.length co34)) (fun _ hk => hk.2) (.int .i64 t450)) (fun _ hk => trivial),bA⟩
    ·rw [if_neg c17] at H
     have c17b0 : (t445 == 0) = false := beq_eq_false_iff_ne.mpr c17
     have c17b1 : (t445 != 0) = true := bne_iff_ne.mpr c17
     replace H := Option.bind_eq_some_iff.mp H
     obtain ⟨⟨t451,t454⟩,A370,H⟩ := H
     try dsimp only at H
     have A37 := Aside0.mk A370
     clear A370
     simp only [Option.some.injEq,Prod.mk.injEq] at H
     obtain ⟨rfl,rfl,rfl,rfl⟩ := H
     go_enter Try.func13,Try.ntmps13
     go_wp2_with (first | ((with_reducible refine gate_dst (N:=3) rfl ?_); refine bxe (N:=3) (cs := #[.slice A0_0 l0_0.length c0_0,.int .i64 a0_1]) (t:=25) ?_; intro gb438 hg w38 hbox hb; have BK438 := Aside0.mk (hbox); have GW438 := Aside0.mk ((gw hg : w.heap.size ≤ gb438)); have GE438 := GW438; replace HB := bsA hb; clear hb hbox hg) | ((with_reducible refine gate_dst (N:=6) rfl ?_); refine bxe (N:=6) (cs := #[.slice none 0 0,.int .i64 0]) (t:=25) ?_; intro gb439 hg w39 hbox hb; have BK439 := Aside0.mk (hbox); have GW439 := Aside0.mk ((gw hg : w.heap.size ≤ gb439)); have GE439 := GW439; replace HB := bsA hb; have NB438_439 := Aside0.mk ((nl hg BK438.out)); have NB439_438 := Aside0.mk ((ng hg BK438.out)); replace BK438 := bbA BK438 hb; clear hb hbox hg; have hnb40 := NB438_439.out; have hnc40 := NB439_438.out; obtain ⟨hcz41_0,hcz41_1⟩ := cl2 BK438.out; obtain ⟨hfz41_0,hfz41_1⟩ := fz2 BK438.out) | ((with_reducible refine gate_callee (f:=37) rfl ?_); refine goesL_ (some 22) rfl rfl Try.func37 (by kernel_rfl) rfl #[.agg #[.slice A0_0 l0_0.length c0_0,.int .i64 a0_1],.string a1] rfl mA ?_; (with_reducible refine (spec_l01Ask.calls k _ _ l0_0 a0_1 a1 t440 _ ?side1 ?side2 A14.out).mono ?_); (case side1 => exact sC HR0_0.out); (case side2 => exact HC0_0.out); rintro e w42 ⟨rfl,hb⟩; refine ⟨_,rfl,?_⟩; replace BK438 := bbA BK438 hb; replace BK439 := bbA BK439 hb; replace HB := bsA hb; clear hb; obtain ⟨hcz43_0,hcz43_1⟩ := cl2 BK438.out; obtain ⟨hfz43_0,hfz43_1⟩ := fz2 BK438.out) | ((with_reducible refine gate_callee (f:=38) rfl ?_); refine goesL_ (some 31) rfl rfl Try.func38 (by kernel_rfl) rfl #[.agg #[.slice A0_0 l0_0.length c0_0,.int .i64 a0_1],.string a1,.string a2] rfl mA ?_; (with_reducible refine (spec_l01Absent.calls k (fun k_ => k_ < w.heap.size) _ _ l0_0 a0_1 a1 a2 t441 t444 t445 _ ?side1 A16.out).mono ?_); (case side1 => exact Kd.V_mk HC0_0.out (Kd.F_below (Kd.C_F k32_heap HR0_0.out) bA)); rintro e w44 ⟨v442,rfl,ho0,hb⟩; refine ⟨_,rfl,?_⟩; have HO443 := Aside0.mk (Kd.V_lower (Kd.V_mono (ok' := fun k_ => k_ ≠ gb438 ∧ k_ ≠ gb439) ho0 (fun k_ hk_ => ⟨Or.elim hk_ (fun hs_ => fun e_ => Nat.not_le.2 hs_ (by rw [e_]; exact GW438.out)) (fun hn_ => (fB BK438.out k_ hn_)),Or.elim hk_ (fun hs_ => fun e_ => Nat.not_le.2 hs_ (by rw [e_]; exact GW439.out)) (fun hn_ => (fB BK439.out k_ hn_))⟩)) (below_size bA)); replace BK438 := bbA BK438 hb; replace BK439 := bbA BK439 hb; replace HB := bsA hb; clear hb; (try clear ho0)) | ((with_reducible refine gate_dst (N:=10) rfl ?_); refine bxe (N:=10) (cs := #[.slice none 0 0,.int .i64 0]) (t:=25) ?_; intro gb446 hg w45 hbox hb; replace HO443 := Aside0.mk (Kd.V_below (Kd.V_elderB (vA HO443.out) gb446 (Nat.le_of_eq hg.symm)) hb); have BK446 := Aside0.mk (hbox); have GW446 := Aside0.mk ((gw hg : w.heap.size ≤ gb446)); have GE446 := GW446; replace HB := bsA hb; have NB438_446 := Aside0.mk ((nl hg BK438.out)); have NB446_438 := Aside0.mk ((ng hg BK438.out)); replace BK438 := bbA BK438 hb; have NB439_446 := Aside0.mk ((nl hg BK439.out)); have NB446_439 := Aside0.mk ((ng hg BK439.out)); replace BK439 := bbA BK439 hb; clear hb hbox hg; obtain ⟨Ao46,co46,eo46⟩ := Kd.V_slice HO443.out; subst eo46; have hnb47 := NB446_438.out; have hnc47 := NB438_446.out; have hnb48 := NB446_439.out; have hnc48 := NB439_446.out; obtain ⟨hcz49_0,hcz49_1⟩ := cl2 BK446.out; obtain ⟨hfz49_0,hfz49_1⟩ := fz2 BK446.out) | ((with_reducible refine gate_callee (f:=39) rfl ?_); refine goesL_ (some 37) rfl rfl Try.func39 (by kernel_rfl) rfl #[.agg #[.slice Ao46 t441.length co46,.int .i64 t444]] rfl mA ?_; (with_reducible refine (spec_l01Own.calls _ _ t441 t444 t451 t454 _ ?side1 ?side2 A37.out).mono ?_); (case side1 => refine (Kd.V_reads' (e:=32) (base := w.heap.size) (ok := fun k_ => ((k_ ≠ gb438 ∧ k_ ≠ gb439) ∧ k_ ≠ gb446)) (n:=t441.length) (c:=co46) ?_).2.2; exact (by (with_reducible repeat (first | apply Kd.V_alloc | apply Kd.V_drewN | apply Kd.V_drew)); exact (Kd.V_mono (Kd.V_far (p:=⟨gb446,1,none⟩) (Kd.V_far (p:=⟨gb446,0,none⟩) (Kd.V_mono HO443.out (fun k_ hk => (⟨hk,hk.2⟩ : _ ∧ k_ ≠ gb446))) (fun _ hk => hk.2) (.slice Ao46 t441.length co46)) (fun _ hk => hk.2) (.int .i64 t444)) (fun _ h_ => h_.1)))); (case side2 => exact (Kd.V_reads' HO443.out).2.1); rintro e w50 ⟨v452,rfl,ho0,hb⟩; refine ⟨_,rfl,?_⟩; replace HO443 := Aside0.mk (Kd.V_elder' (by (with_reducible repeat (first | apply Kd.V_alloc | apply Kd.V_drewN | apply Kd.V_drew)); exact (Kd.V_mono (Kd.V_far (p:=⟨gb446,1,none⟩) (Kd.V_far (p:=⟨gb446,0,none⟩) (Kd.V_mono HO443.out (fun k_ hk => (⟨hk,hk.2⟩ : _ ∧ k_ ≠ gb446))) (fun _ hk => hk.2) (.slice Ao46 t441.length co46)) (fun _ hk => hk.2) (.int .i64 t444)) (fun _ h_ => h_.1))) (Kd.R_base ho0) hb); have HO453 := Aside0.mk (Kd.R_lower ho0 (below_size bA)); replace BK438 := Aside0.mk (bc BK438.out hb); replace BK439 := Aside0.mk (bc BK439.out hb); replace BK446 := Aside0.mk (blk_below (g:=gb446) (o:=.cells #[.slice Ao46 t441.length co46,.int .i64 t444] 25 (0,0)) (kP2 BK446.out) hb); replace HB := bsA hb; clear hb; (try clear ho0); obtain ⟨Ao51,co51,eo51⟩ := Kd.R_slice HO453.out; subst eo51; obtain ⟨hcz52_0,hcz52_1⟩ := cl2 BK439.out; obtain ⟨hfz52_0,hfz52_1⟩ := fz2 BK439.out))
     refine bodyPost_ret (results_ctt rfl _ _ gb439 25 #[.slice Ao51 t451.length co51,.int .i64 t454] (0,0) _ rfl (kP2 BK439.out) Try.underlying25 rfl (by kernel_rfl)) rfl ?_
     exact ⟨_,by first | rfl | (simp [errW_none,errW_some] <;> rfl) | (simp [*,errW_none,errW_some] <;> rfl),by (with_reducible repeat (first | apply Kd.R_alloc | apply Kd.R_drewN | apply Kd.R_drew)); exact Kd.R_mono (Kd.R_far (p:=⟨gb439,1,none⟩) (Kd.R_far (p:=⟨gb439,0,none⟩) (Kd.R_types HO453.out BK439.out (by decide)) (fun _ hk => hk.2) (.slice Ao51 t451.length co51)) (fun _ hk => hk.2) (.int .i64 t454)) (fun _ hk => trivial),bA⟩
   ·rw [if_neg c15] at H
    have c15b0 : (t440 == 0) = false := beq_eq_false_iff_ne.mpr c15
    have c15b1 : (t440 != 0) = true := bne_iff_ne.mpr c15
    simp only [Option.some.injEq,Prod.mk.injEq] at H
    obtain ⟨rfl,rfl,rfl,rfl⟩ := H
    go_enter Try.func13,Try.ntmps13
    go_wp2_with (first | ((with_reducible refine gate_dst (N:=3) rfl ?_); refine bxe (N:=3) (cs := #[.slice A0_0 l0_0.length c0_0,.int .i64 a0_1]) (t:=25) ?_; intro gb438 hg w53 hbox hb; have BK438 := Aside0.mk (hbox); have GW438 := Aside0.mk ((gw hg : w.heap.size ≤ gb438)); have GE438 := GW438; replace HB := bsA hb; clear hb hbox hg) | ((with_reducible refine gate_dst (N:=6) rfl ?_); refine bxe (N:=6) (cs := #[.slice none 0 0,.int .i64 0]) (t:=25) ?_; intro gb439 hg w54 hbox hb; have BK439 := Aside0.mk (hbox); have GW439 := Aside0.mk ((gw hg : w.heap.size ≤ gb439)); have GE439 := GW439; replace HB := bsA hb; have NB438_439 := Aside0.mk ((nl hg BK438.out)); have NB439_438 := Aside0.mk ((ng hg BK438.out)); replace BK438 := bbA BK438 hb; clear hb hbox hg; have hnb55 := NB438_439.out; have hnc55 := NB439_438.out; obtain ⟨hcz56_0,hcz56_1⟩ := cl2 BK438.out; obtain ⟨hfz56_0,hfz56_1⟩ := fz2 BK438.out) | ((with_reducible refine gate_callee (f:=37) rfl ?_); refine goesL_ (some 22) rfl rfl Try.func37 (by kernel_rfl) rfl #[.agg #[.slice A0_0 l0_0.length c0_0,.int .i64 a0_1],.string a1] rfl mA ?_; (with_reducible refine (spec_l01Ask.calls k _ _ l0_0 a0_1 a1 t440 _ ?side1 ?side2 A14.out).mono ?_); (case side1 => exact sC HR0_0.out); (case side2 => exact HC0_0.out); rintro e w57 ⟨rfl,hb⟩; refine ⟨_,rfl,?_⟩; replace BK438 := bbA BK438 hb; replace BK439 := bbA BK439 hb; replace HB := bsA hb; clear hb; obtain ⟨hcz58_0,hcz58_1⟩ := cl2 BK439.out; obtain ⟨hfz58_0,hfz58_1⟩ := fz2 BK439.out))
    refine bodyPost_ret (results_ctt rfl _ _ gb439 25 #[.slice none 0 0,.int .i64 0] (0,0) _ rfl (kP2 BK439.out) Try.underlying25 rfl (by kernel_rfl)) rfl ?_
    exact ⟨_,by first | rfl | (simp [errW_none,errW_some] <;> rfl) | (simp [*,errW_none,errW_some] <;> rfl),by first | exact Kd.R_nil _ _ _ _ _ | exact Kd.N_nil _ _ _ _ _ | exact Kd.V_nil _ _ _ _ _ | exact Kd.Q_nil _ _ _ _ _ | exact Kd.S_nil _ _ _ _ _,bA⟩

end Go.Proofs.Ytgkfemnfbkgeiaa.XFnStore
