-- Printed by this session's own program wip/tools/xprint.py, which widens the kit's print. Not trusted: Lean checks it.
import Derived.Test.YtleifhnoaaphmaaGreatDoorXFnExactWindowOfx0
import Derived.Test.YtleifhnoaaphmaaGreatDoorXFnExactWindowOfx2
import Derived.Test.YtleifhnoaaphmaaGreatDoorXFnExactWindowOfx5
import Derived.Test.YtleifhnoaaphmaaGreatDoorXFnExactWindowOfx7
import Derived.Test.YtleifhnoaaphmaaGreatDoorXFnExactWindowOfx8
import Derived.Test.YtleifhnoaaphmaaGreatDoorXFnExactWindowOfx9
namespace Go.Proofs.YtleifhnoaaphmaaGreatDoor.XFnExactWindowOf
open List (setIfInBounds_toArray set_cons_zero set_cons_succ)
open Go.RowKit Go.Proofs.YtleifhnoaaphmaaGreatDoorW.PrintWords Go.Proofs.YtleifhnoaaphmaaGreatDoorW.PrintLast Go.Proofs.YtleifhnoaaphmaaGreatDoorW.PrintMore
attribute [local go_sem] max2_int min2_int max_two min_two max_three min_three max_four min_four   -- for this text's walks alone
set_option linter.unusedVariables false
set_option linter.unusedSimpArgs false

/-! ### spec_l03ToBuckets: function 21 -/
def spec_l03ToBuckets.l0 : Nat → List (S75) → List ByteArray → Int → Option ((List (S75)) × Bool)
 | 0,_,_,_ => none
 | k + 1,x4,x5,x6 => if x6 < (x5.length : Int) then (if 0 ≤ x6 then ((spec_l00Cut.f k (rdOf ByteArray.empty x5 x6) 58).bind fun t254 => (if (t254.length : Int) = 2 then (if 0 < (t254.length : Int) then ((spec_l02Number.f k (rdOf ByteArray.empty t254 0)).bind fun bt261 => (if 1 < (t254.length : Int) then ((spec_l02Read.f k (rdOf ByteArray.empty t254 1)).bind fun bt264 => (if bt261.2 = true then (if bt264.2.2.2.2.2.2 = true then (if x4.length < 2513169434916 then (spec_l03ToBuckets.l0 k (x4 ++ [(⟨bt261.1,(⟨bt264.1,bt264.2.1,bt264.2.2.1,bt264.2.2.2.1,bt264.2.2.2.2.1,bt264.2.2.2.2.2.1⟩ : S26)⟩ : S75)]) x5 (wrap64 (x6 + 1))) else (none)) else (some ((([] : List (S75))),false))) else (some ((([] : List (S75))),false)))) else (none))) else (none)) else (some ((([] : List (S75))),false)))) else (none)) else ((spec_BucketsOK.f k x4).bind fun t281 => (if t281 = true then (some (x4,true)) else (some ((([] : List (S75))),false))))
def spec_l03ToBuckets.f (k : Nat) (a0 : ByteArray) : Option ((List (S75)) × Bool) := (some (([] : List (S75)) : List (S75))).bind fun y247 => (if a0.toList = ([] : List UInt8) then (some (y247,true)) else ((spec_l00Cut.f k a0 32).bind fun t250 => (spec_l03ToBuckets.l0 k y247 t250 0)))
theorem spec_l03ToBuckets.mono_l : ∀ k,(∀ y0 y1 y2,LeO (spec_l03ToBuckets.l0 k y0 y1 y2) (spec_l03ToBuckets.l0 (k + 1) y0 y1 y2))
 | 0 => fun _ _ _ r h => by simp [spec_l03ToBuckets.l0] at h
 | k + 1 => by
  have ih0 := spec_l03ToBuckets.mono_l k
  ·intro y0 y1 y2
   unfold spec_l03ToBuckets.l0
   repeat' first
   | (with_reducible exact ih0 _ _ _)
   | (with_reducible exact spec_BucketsOK.mono _ _)
   | (with_reducible exact spec_l00Cut.mono _ _ _)
   | (with_reducible exact spec_l02Number.mono _ _)
   | (with_reducible exact spec_l02Read.mono _ _)
   | (with_reducible exact LeO.refl _)
   | (with_reducible exact LeO.none _)
   | (with_reducible refine LeO.ite ?_ ?_)
   | (with_reducible refine LeO.bind ?_ (fun _ => ?_))
   | exact ih0 _ _ _
   | exact spec_BucketsOK.mono _ _
   | exact spec_l00Cut.mono _ _ _
   | exact spec_l02Number.mono _ _
   | exact spec_l02Read.mono _ _
   | exact LeO.none _
   | refine LeO.ite ?_ ?_
   | refine LeO.bind ?_ (fun _ => ?_)
theorem spec_l03ToBuckets.mono : ∀ a0 k,LeO (spec_l03ToBuckets.f k a0) (spec_l03ToBuckets.f (k + 1) a0) := by
 intro a0 k
 have ih0 := spec_l03ToBuckets.mono_l k
 unfold spec_l03ToBuckets.f
 repeat' first
   | (with_reducible exact ih0 _ _ _)
   | (with_reducible exact spec_BucketsOK.mono _ _)
   | (with_reducible exact spec_l00Cut.mono _ _ _)
   | (with_reducible exact spec_l02Number.mono _ _)
   | (with_reducible exact spec_l02Read.mono _ _)
   | (with_reducible exact LeO.refl _)
   | (with_reducible exact LeO.none _)
   | (with_reducible refine LeO.ite ?_ ?_)
   | (with_reducible refine LeO.bind ?_ (fun _ => ?_))
   | exact ih0 _ _ _
   | exact spec_BucketsOK.mono _ _
   | exact spec_l00Cut.mono _ _ _
   | exact spec_l02Number.mono _ _
   | exact spec_l02Read.mono _ _
   | exact LeO.none _
   | refine LeO.ite ?_ ?_
   | refine LeO.bind ?_ (fun _ => ?_)
set_option maxHeartbeats 8000000 in
set_option maxRecDepth 100000 in
theorem spec_l03ToBuckets.calls (k : Nat) (a0 : ByteArray) (r1 : List (S75)) (r2 : Bool) (w : World) (h : spec_l03ToBuckets.f k a0 = some (r1,r2)) :
  Calls Tryz.prog 21 #[.string a0] w fun e w' => ∃ v0_ : Value,e = .returned (.tuple #[v0_,.bool r2]) ∧ Kd.R k75 75 w' w.heap.size (fun _ => True) v0_ r1 ∧ Below w.heap.size w w' := by
 have hu26 := Tryz.underlying26
 have hu75 := Tryz.underlying75
 have HB := Aside0.mk (Below.refl w.heap.size w)
 have H : ((some (([] : List (S75)) : List (S75))).bind fun y247 => (if a0.toList = ([] : List UInt8) then (some (y247,true)) else ((spec_l00Cut.f k a0 32).bind fun t250 => (spec_l03ToBuckets.l0 k y247 t250 0)))) = some (r1,r2) := h
 clear h
 obtain ⟨y247,hy247⟩ : ∃ y_ : List (S75),y_ = (([] : List (S75))) := ⟨_,rfl⟩
 replace H : (if a0.toList = ([] : List UInt8) then (some (y247,true)) else ((spec_l00Cut.f k a0 32).bind fun t250 => (spec_l03ToBuckets.l0 k y247 t250 0))) = some (r1,r2) := by first | (rw [hy247]; with_reducible exact H) | (have H2_ := (Option.bind_some _ _).symm.trans H; rw [hy247]; with_reducible exact H2_) | (have H2_ := (Option.bind_some _ _).symm.trans H; with_reducible exact H2_) | with_reducible exact H | (rw [hy247]; exact H) | exact H
 have Ny247 := Aside0.mk hy247
 clear hy247
 by_cases c2 : a0.toList = ([] : List UInt8)
 ·rw [if_pos c2] at H
  have c2b0 : (a0.toList == ([] : List UInt8)) = true := beq_iff_eq.mpr c2
  have c2b1 : (a0.toList != ([] : List UInt8)) = false := bne_eq_false_iff_eq.mpr c2
  clear c2
  simp only [Option.some.injEq,Prod.mk.injEq] at H
  obtain ⟨rfl,rfl⟩ := H
  go_enter Tryz.func21,Tryz.ntmps21
  go_wp2_with (first | ((with_reducible refine gate_dst (N:=12) rfl ?_); refine Kd.R_lit k75 _ 75 ?hg (N:=12) ?hd (xs := ([] : List (S75))) (inner := []) (ok := fun _ => True) (okp := fun _ => True) ?hr ?hp (fun _ hk => hk) trivial (Below.refl _ _) (Nat.le_refl _) (by simp) ?_; (case hd => rfl); (case hg => rfl); (case hr => first | (go_simp; done) | (go_simp; rfl)); (case hp => exact (Reps.none _ _)); intro v248 w3 ho4 hb hg_ hnew_; clear hg_ hnew_; (first | rw [← Ny247.out] at ho4 | (simp only [Int.reduceToNat] at ho4; rw [← Ny247.out] at ho4)); have n0_ := Aside0.mk (Kd.R_lower ho4 (below_size bA)); have n1_ := Aside0.mk (below_step bA hb); clear HB; have HO249 := n0_; have HB := n1_; clear n0_ n1_; clear hb ho4))
  go_ret2
  exact ⟨_,by first | rfl | (simp only [i64_w,i32_w] <;> rfl) | (simp [errW_none,errW_some] <;> rfl) | (simp [*,errW_none,errW_some] <;> rfl),rA HO249.out,bA⟩
 ·rw [if_neg c2] at H
  have c2b0 : (a0.toList == ([] : List UInt8)) = false := beq_eq_false_iff_ne.mpr c2
  have c2b1 : (a0.toList != ([] : List UInt8)) = true := bne_iff_ne.mpr c2
  replace H := Option.bind_eq_some_iff.mp H
  obtain ⟨t250,A50,H⟩ := H
  try dsimp only at H
  have A5 := Aside0.mk A50
  clear A50
  have H' := Aside0.mk H
  clear H
  go_enter Tryz.func21,Tryz.ntmps21
  go_wp2_with (first | ((with_reducible refine gate_dst (N:=12) rfl ?_); refine Kd.R_lit k75 _ 75 ?hg (N:=12) ?hd (xs := ([] : List (S75))) (inner := []) (ok := fun _ => True) (okp := fun _ => True) ?hr ?hp (fun _ hk => hk) trivial (Below.refl _ _) (Nat.le_refl _) (by simp) ?_; (case hd => rfl); (case hg => rfl); (case hr => first | (go_simp; done) | (go_simp; rfl)); (case hp => exact (Reps.none _ _)); intro v248 w6 ho7 hb hg_ hnew_; clear hg_ hnew_; (first | rw [← Ny247.out] at ho7 | (simp only [Int.reduceToNat] at ho7; rw [← Ny247.out] at ho7)); have n0_ := Aside0.mk (Kd.R_lower ho7 (below_size bA)); have n1_ := Aside0.mk (below_step bA hb); clear HB; have HO249 := n0_; have HB := n1_; clear n0_ n1_; clear hb ho7) | ((with_reducible refine gate_callee (f:=32) rfl ?_); refine goesL_ (some 17) rfl rfl Tryz.func32 (by kernel_rfl) rfl #[.string a0,.int .u8 32] rfl mA ?_; (with_reducible refine (spec_l00Cut.calls k a0 32 t250 _ A5.out).mono ?_); rintro e w8 ⟨v251,rfl,ho0,hb⟩; refine ⟨_,rfl,?_⟩; have n0_ := Aside0.mk (Kd.R_below (rA HO249.out) hb); have n1_ := Aside0.mk (Kd.R_lower ho0 (below_size bA)); have n2_ := Aside0.mk (below_step bA hb); clear HO249; clear HB; have HO249 := n0_; have HO252 := n1_; have HB := n2_; clear n0_ n1_ n2_; (try clear hb); (try clear hb2); (try clear hk); (try clear hi); (try clear ho0)))
  go_loopg [4,6] k (fun kq v4 v6 w' => ∃ (x4_1 : List (S75)) (x6_1 : Int),v6 = .int .i64 x6_1 ∧ Aside0 (spec_l03ToBuckets.l0 kq x4_1 t250 x6_1 = some (r1,r2)) ∧ Aside0 (kq ≤ k) ∧ Aside0 (Kd.R k75 75 w' w.heap.size (fun _ => True) v4 x4_1) ∧ Aside0 (Kd.R Kd.string 9 w' w.heap.size (fun _ => True) v251 t250) ∧ Aside0 (Below w.heap.size w w'))
  case atStart => exact ⟨(y247),(0),(by first | rfl | (simp; done) | (simp [*]; done)),H',⟨Nat.le_refl _⟩,⟨rA HO249.out⟩,⟨rA HO252.out⟩,⟨bA⟩⟩
  case round =>
   clear H'
   try clear c2
   try clear c2b0
   try clear c2b1
   try clear p2
   try clear c3
   obtain ⟨x4_1,x6_1,rfl,HA,HK1,HO_4,HO_5,HB⟩ := hrel
   cases gk with
   | zero => exact absurd HA.out (by simp [spec_l03ToBuckets.l0])
   | succ k1 =>
    have H := HA.out
    clear HA
    simp only [spec_l03ToBuckets.l0] at H
    by_cases c9 : x6_1 < (t250.length : Int)
    ·rw [if_pos c9] at H
     have c9b0 : decide (x6_1 < (t250.length : Int)) = true := decide_eq_true c9
     clear c9
     by_cases c10 : 0 ≤ x6_1
     ·rw [if_pos c10] at H
      have c10b0 : decide (0 ≤ x6_1) = true := decide_eq_true c10
      clear c10
      replace H := Option.bind_eq_some_iff.mp H
      obtain ⟨t254,A110,H⟩ := H
      try dsimp only at H
      have A11 := Aside0.mk A110
      clear A110
      by_cases c12 : (t254.length : Int) = 2
      ·rw [if_pos c12] at H
       have c12b0 : ((t254.length : Int) == 2) = true := beq_iff_eq.mpr c12
       have c12b1 : ((t254.length : Int) != 2) = false := bne_eq_false_iff_eq.mpr c12
       clear c12
       by_cases c13 : 0 < (t254.length : Int)
       ·rw [if_pos c13] at H
        have c13b0 : decide (0 < (t254.length : Int)) = true := decide_eq_true c13
        have c13b1 : decide (0 < t254.length) = true := decide_eq_true (by omega)
        clear c13
        replace H := Option.bind_eq_some_iff.mp H
        obtain ⟨⟨t261,t262⟩,A140,H⟩ := H
        try dsimp only at H
        have A14 := Aside0.mk A140
        clear A140
        by_cases c15 : 1 < (t254.length : Int)
        ·rw [if_pos c15] at H
         have c15b0 : decide (1 < (t254.length : Int)) = true := decide_eq_true c15
         have c15b1 : decide (1 < t254.length) = true := decide_eq_true (by omega)
         clear c15
         replace H := Option.bind_eq_some_iff.mp H
         obtain ⟨⟨t264,t265,t266,t267,t268,t269,t270⟩,A160,H⟩ := H
         try dsimp only at H
         have A16 := Aside0.mk A160
         clear A160
         by_cases c17 : t262 = true
         ·subst c17
          rw [if_pos rfl] at H
          by_cases c18 : t270 = true
          ·subst c18
           rw [if_pos rfl] at H
           by_cases c19 : x4_1.length < 2513169434916
           ·rw [if_pos c19] at H
            have LMc19 := Aside0.mk c19
            clear c19
            obtain ⟨y272,hy272⟩ : ∃ y_ : List (S75),y_ = (x4_1 ++ [(⟨t261,(⟨t264,t265,t266,t267,t268,t269⟩ : S26)⟩ : S75)]) := ⟨_,rfl⟩
            replace H : (spec_l03ToBuckets.l0 k1 y272 t250 (wrap64 (x6_1 + 1))) = some (r1,r2) := by first | (rw [hy272]; with_reducible exact H) | (have H2_ := (Option.bind_some _ _).symm.trans H; rw [hy272]; with_reducible exact H2_) | (have H2_ := (Option.bind_some _ _).symm.trans H; with_reducible exact H2_) | with_reducible exact H | (rw [hy272]; exact H) | exact H
            have Ny272 := Aside0.mk hy272
            clear hy272
            have H' := Aside0.mk H
            clear H
            obtain ⟨Ao20,co20,eo20⟩ := Kd.R_slice HO_5.out
            subst eo20
            have p253 : 0 ≤ (x6_1 : Int) := od
            have q253 : x6_1 < (t250.length : Int) := od
            obtain ⟨ad253,e253,hx253_0⟩ := Kd.at_string (Kd.R_reads' HO_5.out).2.2 x6_1 p253 q253
            cases e253
            replace p253 := eq_true p253
            replace q253 := eq_true q253
            go_wp2_with (first | ((with_reducible refine gate_callee (f:=32) rfl ?_); refine goesL_ (some 28) rfl rfl Tryz.func32 (by kernel_rfl) rfl #[.string (rdOf ByteArray.empty t250 x6_1),.int .u8 58] rfl mA ?_; (with_reducible refine (spec_l00Cut.calls k1 (rdOf ByteArray.empty t250 x6_1) 58 t254 _ A11.out).mono ?_); rintro e w21 ⟨v255,rfl,ho0,hb⟩; refine ⟨_,rfl,?_⟩; have n0_ := Aside0.mk (Kd.R_below (rA HO_4.out) hb); have n1_ := Aside0.mk (Kd.R_elder' (rA HO_5.out) (Kd.R_base ho0) hb); have n2_ := Aside0.mk (Kd.R_lower (Kd.R_new' ho0 (Kd.R_lt (rA HO_5.out))) (below_size bA)); have n3_ := Aside0.mk (below_step bA hb); clear HO_4; clear HO_5; clear HB; have HO_4 := n0_; have HO_5 := n1_; have HO256 := n2_; have HB := n3_; clear n0_ n1_ n2_ n3_; (try clear hb); (try clear hb2); (try clear hk); (try clear hi); (try clear ho0); obtain ⟨Ao22,co22,eo22⟩ := Kd.R_slice HO256.out; subst eo22; have p260 : 0 ≤ (0 : Int) := (by omega); have q260 : 0 < (t254.length : Int) := od; obtain ⟨ad260,e260,hx260_0⟩ := Kd.at_string (Kd.R_reads' HO256.out).2.2 0 p260 q260; cases e260; have qi260 : (0 < t254.length) = True := eq_true (by omega); (try rw [show ((0 : Int)).toNat = 0 from rfl] at hx260_0); (try rw [Addr.add_zero'] at hx260_0); replace p260 := eq_true p260; replace q260 := eq_true q260) | ((with_reducible refine gate_callee (f:=40) rfl ?_); refine goesL_ (some 37) rfl rfl Tryz.func40 (by kernel_rfl) rfl #[.string (rdOf ByteArray.empty t254 0)] rfl mA ?_; (with_reducible refine (spec_l02Number.calls k1 (rdOf ByteArray.empty t254 0) t261 true _ A14.out).mono ?_); rintro e w23 ⟨rfl,hb⟩; refine ⟨_,rfl,?_⟩; have n0_ := Aside0.mk (Kd.R_below (rA HO_4.out) hb); have n1_ := Aside0.mk (Kd.R_below (rA HO_5.out) hb); have n2_ := Aside0.mk (Kd.R_below (rA HO256.out) hb); have n3_ := Aside0.mk (below_step bA hb); clear HO_4; clear HO_5; clear HO256; clear HB; have HO_4 := n0_; have HO_5 := n1_; have HO256 := n2_; have HB := n3_; clear n0_ n1_ n2_ n3_; (try clear hb); (try clear hb2); (try clear hk); (try clear hi); have p263 : 0 ≤ (1 : Int) := (by omega); have q263 : 1 < (t254.length : Int) := od; obtain ⟨ad263,e263,hx263_0⟩ := Kd.at_string (Kd.R_reads' HO256.out).2.2 1 p263 q263; obtain rfl : ad260 = ad263 := (by injection e263); (try simp only [show (1 : Int).toNat = 1 from rfl,Nat.reduceMul,Nat.reduceEqDiff,Go.Addr.add,↓reduceIte] at hx263_0); have qi263 : (1 < t254.length) = True := eq_true (by omega); (try rw [show ((1 : Int)).toNat = 1 from rfl] at hx263_0); replace p263 := eq_true p263; replace q263 := eq_true q263) | ((with_reducible refine gate_callee (f:=41) rfl ?_); refine goesL_ (some 44) rfl rfl Tryz.func41 (by kernel_rfl) rfl #[.string (rdOf ByteArray.empty t254 1)] rfl mA ?_; (with_reducible refine (spec_l02Read.calls k1 (rdOf ByteArray.empty t254 1) t264 t265 t266 t267 t268 t269 true _ A16.out).mono ?_); rintro e w24 ⟨rfl,hb⟩; refine ⟨_,rfl,?_⟩; have n0_ := Aside0.mk (Kd.R_below (rA HO_4.out) hb); have n1_ := Aside0.mk (Kd.R_below (rA HO_5.out) hb); have n2_ := Aside0.mk (Kd.R_below (rA HO256.out) hb); have n3_ := Aside0.mk (below_step bA hb); clear HO_4; clear HO_5; clear HO256; clear HB; have HO_4 := n0_; have HO_5 := n1_; have HO256 := n2_; have HB := n3_; clear n0_ n1_ n2_ n3_; (try clear hb); (try clear hb2); (try clear hk); (try clear hi)) | ((with_reducible refine gate_dst (N:=10) rfl ?_); refine box_event ?hg (N:=10) ?hd (cs := #[.int .i64 0,.int .i64 0,.int .i64 0,.int .i64 0,.int .i64 0,.int .i64 0]) (t:=26) ?hr ?_; (case hd => rfl); (case hg => rfl); (case hr => first | (go_simp; done) | (go_simp; rfl)); intro gb271 hg w25 hbox hb; have n0_ := Aside0.mk (Kd.R_below (rA HO_4.out) hb); have n1_ := Aside0.mk (Kd.R_below (rA HO_5.out) hb); have n2_ := Aside0.mk (Kd.R_below (rA HO256.out) hb); have n3_ := Aside0.mk (below_step bA hb); have n4_ := Aside0.mk (hbox); have n5_ := Aside0.mk ((gw hg : w.heap.size ≤ gb271)); have n6_ := Aside0.mk ((gw hg : w.heap.size ≤ gb271)); clear HO_4; clear HO_5; clear HO256; clear HB; have HO_4 := n0_; have HO_5 := n1_; have HO256 := n2_; have HB := n3_; have BK271 := n4_; have GW271 := n5_; have GE271 := n6_; clear n0_ n1_ n2_ n3_ n4_ n5_ n6_; clear hb hbox hg; have hcz26_0 : w25.cell? ⟨gb271,0,none⟩ = some (.int .i64 0) := (blk_cell BK271.out 0).trans rfl; have hcz26_1 : w25.cell? ⟨gb271,1,none⟩ = some (.int .i64 0) := (blk_cell BK271.out 1).trans rfl; have hcz26_2 : w25.cell? ⟨gb271,2,none⟩ = some (.int .i64 0) := (blk_cell BK271.out 2).trans rfl; have hcz26_3 : w25.cell? ⟨gb271,3,none⟩ = some (.int .i64 0) := (blk_cell BK271.out 3).trans rfl; have hcz26_4 : w25.cell? ⟨gb271,4,none⟩ = some (.int .i64 0) := (blk_cell BK271.out 4).trans rfl; have hcz26_5 : w25.cell? ⟨gb271,5,none⟩ = some (.int .i64 0) := (blk_cell BK271.out 5).trans rfl; have hfz26_0 := blk_frozen BK271.out 0; have hfz26_1 := blk_frozen BK271.out 1; have hfz26_2 := blk_frozen BK271.out 2; have hfz26_3 := blk_frozen BK271.out 3; have hfz26_4 := blk_frozen BK271.out 4; have hfz26_5 := blk_frozen BK271.out 5) | ((with_reducible refine gate_builtin (b:=.append) (xs := #[.tmp 54,.tmp 58]) rfl ?_); at_builtin; refine Kd.R_append k75 (w0 := w) w.heap.size rfl (.tmp 54) (.tmp 58) 51 75 (.agg #[(.int .i64 0),(.int .i64 0),(.int .i64 0),(.int .i64 0),(.int .i64 0),(.int .i64 0),(.int .i64 0)]) 56 rfl Tryz.underlying51 info75 rfl (by decide) (by omega) u4 x4_1 (⟨t261,(⟨t264,t265,t266,t267,t268,t269⟩ : S26)⟩ : S75) [.int .i64 t261,.int .i64 t264,.int .i64 t265,.int .i64 t266,.int .i64 t267,.int .i64 t268,.int .i64 t269] (fun _ => True) (fun _ => False) rfl (by first | (go_simp; done) | (go_simp; rfl)) ?aP (fun _ hk => hk.elim) ?aF ?aO ?aB ?aS ?aL ?_; (case aP => exact k75_mkM _ _ _ (⟨t261,(⟨t264,t265,t266,t267,t268,t269⟩ : S26)⟩ : S75)); (case aB => exact bA); (case aF => exact (fun _ _ => trivial)); (case aO => exact (by (with_reducible repeat (first | apply Kd.R_alloc | apply Kd.R_drewN | apply Kd.R_drew)); exact Kd.R_mono (Kd.R_far (p:=⟨gb271,5,none⟩) (Kd.R_far (p:=⟨gb271,4,none⟩) (Kd.R_far (p:=⟨gb271,3,none⟩) (Kd.R_far (p:=⟨gb271,2,none⟩) (Kd.R_far (p:=⟨gb271,1,none⟩) (Kd.R_far (p:=⟨gb271,0,none⟩) (Kd.R_types HO_4.out BK271.out (by decide)) (fun _ hk => hk.2) (.int .i64 t264)) (fun _ hk => hk.2) (.int .i64 t265)) (fun _ hk => hk.2) (.int .i64 t266)) (fun _ hk => hk.2) (.int .i64 t267)) (fun _ hk => hk.2) (.int .i64 t268)) (fun _ hk => hk.2) (.int .i64 t269)) (fun _ hk => trivial))); (case aS => exact (below_size bA)); (case aL => have := LMc19.out; omega); intro v273 w27 ho hb hg hat; rw [← Ny272.out] at ho; have n0_ := Aside0.mk (Kd.R_over' (by (with_reducible repeat (first | apply Kd.R_alloc | apply Kd.R_drewN | apply Kd.R_drew)); exact (Kd.R_mono (Kd.R_far (p:=⟨gb271,5,none⟩) (Kd.R_far (p:=⟨gb271,4,none⟩) (Kd.R_far (p:=⟨gb271,3,none⟩) (Kd.R_far (p:=⟨gb271,2,none⟩) (Kd.R_far (p:=⟨gb271,1,none⟩) (Kd.R_far (p:=⟨gb271,0,none⟩) (Kd.R_types HO_5.out BK271.out (by decide)) (fun _ hk => hk.2) (.int .i64 t264)) (fun _ hk => hk.2) (.int .i64 t265)) (fun _ hk => hk.2) (.int .i64 t266)) (fun _ hk => hk.2) (.int .i64 t267)) (fun _ hk => hk.2) (.int .i64 t268)) (fun _ hk => hk.2) (.int .i64 t269)) (fun _ h_ => h_.1))) (Kd.R_typed (by (with_reducible repeat (first | apply Kd.R_alloc | apply Kd.R_drewN | apply Kd.R_drew)); exact (Kd.R_mono (Kd.R_far (p:=⟨gb271,5,none⟩) (Kd.R_far (p:=⟨gb271,4,none⟩) (Kd.R_far (p:=⟨gb271,3,none⟩) (Kd.R_far (p:=⟨gb271,2,none⟩) (Kd.R_far (p:=⟨gb271,1,none⟩) (Kd.R_far (p:=⟨gb271,0,none⟩) (Kd.R_types HO_4.out BK271.out (by decide)) (fun _ hk => hk.2) (.int .i64 t264)) (fun _ hk => hk.2) (.int .i64 t265)) (fun _ hk => hk.2) (.int .i64 t266)) (fun _ hk => hk.2) (.int .i64 t267)) (fun _ hk => hk.2) (.int .i64 t268)) (fun _ hk => hk.2) (.int .i64 t269)) (fun _ h_ => h_.1)))) (by decide) hg); have n1_ := Aside0.mk (Kd.R_over' (by (with_reducible repeat (first | apply Kd.R_alloc | apply Kd.R_drewN | apply Kd.R_drew)); exact (Kd.R_mono (Kd.R_far (p:=⟨gb271,5,none⟩) (Kd.R_far (p:=⟨gb271,4,none⟩) (Kd.R_far (p:=⟨gb271,3,none⟩) (Kd.R_far (p:=⟨gb271,2,none⟩) (Kd.R_far (p:=⟨gb271,1,none⟩) (Kd.R_far (p:=⟨gb271,0,none⟩) (Kd.R_types HO256.out BK271.out (by decide)) (fun _ hk => hk.2) (.int .i64 t264)) (fun _ hk => hk.2) (.int .i64 t265)) (fun _ hk => hk.2) (.int .i64 t266)) (fun _ hk => hk.2) (.int .i64 t267)) (fun _ hk => hk.2) (.int .i64 t268)) (fun _ hk => hk.2) (.int .i64 t269)) (fun _ h_ => h_.1))) (Kd.R_typed (by (with_reducible repeat (first | apply Kd.R_alloc | apply Kd.R_drewN | apply Kd.R_drew)); exact (Kd.R_mono (Kd.R_far (p:=⟨gb271,5,none⟩) (Kd.R_far (p:=⟨gb271,4,none⟩) (Kd.R_far (p:=⟨gb271,3,none⟩) (Kd.R_far (p:=⟨gb271,2,none⟩) (Kd.R_far (p:=⟨gb271,1,none⟩) (Kd.R_far (p:=⟨gb271,0,none⟩) (Kd.R_types HO_4.out BK271.out (by decide)) (fun _ hk => hk.2) (.int .i64 t264)) (fun _ hk => hk.2) (.int .i64 t265)) (fun _ hk => hk.2) (.int .i64 t266)) (fun _ hk => hk.2) (.int .i64 t267)) (fun _ hk => hk.2) (.int .i64 t268)) (fun _ hk => hk.2) (.int .i64 t269)) (fun _ h_ => h_.1)))) (by decide) hg); have n2_ := Aside0.mk (blk_grown (g:=gb271) (o:=.cells #[.int .i64 t264,.int .i64 t265,.int .i64 t266,.int .i64 t267,.int .i64 t268,.int .i64 t269] 26 (0,0)) (by (with_reducible repeat (first | refine blk_drewN ?_ _ | refine blk_drew ?_ | refine blk_alloc ?_ _)); apply blkp6; (with_reducible repeat (first | refine blk_drewN ?_ _ | refine blk_drew ?_ | refine blk_alloc ?_ _)); exact BK271.out) hg (Kd.R_ne HO_4.out BK271.out (by decide))); have n3_ := Aside0.mk (hb); have n4_ := Aside0.mk (ho); clear HO_5; clear HO256; clear BK271; clear HB; clear HO_4; have HO_5 := n0_; have HO256 := n1_; have BK271 := n2_; have HB := n3_; have HO274 := n4_; clear n0_ n1_ n2_ n3_ n4_; clear ho hb hg hat))
            go_roundg k1
            case measure => have := HK1.out; omega
            case rel => exact ⟨(y272),(wrap64 (x6_1 + 1)),(by first | rfl | (simp; done) | (simp [*]; done)),H',⟨by have := HK1.out; omega⟩,⟨rA HO274.out⟩,⟨by (with_reducible repeat (first | apply Kd.R_alloc | apply Kd.R_drewN | apply Kd.R_drew)); exact Kd.R_mono HO_5.out (fun _ hk => trivial)⟩,⟨bA⟩⟩
           ·rw [if_neg c19] at H
            exact absurd H (by simp)
          ·replace c18 := Bool.eq_false_iff.mpr c18
           subst c18
           rw [if_neg (show ¬ (false = true) by decide)] at H
           obtain ⟨y275,hy275⟩ : ∃ y_ : List (S75),y_ = (([] : List (S75))) := ⟨_,rfl⟩
           replace H : (some (y275,false)) = some (r1,r2) := by first | (rw [hy275]; with_reducible exact H) | (have H2_ := (Option.bind_some _ _).symm.trans H; rw [hy275]; with_reducible exact H2_) | (have H2_ := (Option.bind_some _ _).symm.trans H; with_reducible exact H2_) | with_reducible exact H | (rw [hy275]; exact H) | exact H
           have Ny275 := Aside0.mk hy275
           clear hy275
           simp only [Option.some.injEq,Prod.mk.injEq] at H
           obtain ⟨rfl,rfl⟩ := H
           obtain ⟨Ao28,co28,eo28⟩ := Kd.R_slice HO_5.out
           subst eo28
           have p253 : 0 ≤ (x6_1 : Int) := od
           have q253 : x6_1 < (t250.length : Int) := od
           obtain ⟨ad253,e253,hx253_0⟩ := Kd.at_string (Kd.R_reads' HO_5.out).2.2 x6_1 p253 q253
           cases e253
           replace p253 := eq_true p253
           replace q253 := eq_true q253
           go_wp2_with (first | ((with_reducible refine gate_callee (f:=32) rfl ?_); refine goesL_ (some 28) rfl rfl Tryz.func32 (by kernel_rfl) rfl #[.string (rdOf ByteArray.empty t250 x6_1),.int .u8 58] rfl mA ?_; (with_reducible refine (spec_l00Cut.calls k1 (rdOf ByteArray.empty t250 x6_1) 58 t254 _ A11.out).mono ?_); rintro e w29 ⟨v255,rfl,ho0,hb⟩; refine ⟨_,rfl,?_⟩; have n0_ := Aside0.mk (Kd.R_below (rA HO_4.out) hb); have n1_ := Aside0.mk (Kd.R_elder' (rA HO_5.out) (Kd.R_base ho0) hb); have n2_ := Aside0.mk (Kd.R_lower (Kd.R_new' ho0 (Kd.R_lt (rA HO_5.out))) (below_size bA)); have n3_ := Aside0.mk (below_step bA hb); clear HO_4; clear HO_5; clear HB; have HO_4 := n0_; have HO_5 := n1_; have HO256 := n2_; have HB := n3_; clear n0_ n1_ n2_ n3_; (try clear hb); (try clear hb2); (try clear hk); (try clear hi); (try clear ho0); obtain ⟨Ao30,co30,eo30⟩ := Kd.R_slice HO256.out; subst eo30; have p260 : 0 ≤ (0 : Int) := (by omega); have q260 : 0 < (t254.length : Int) := od; obtain ⟨ad260,e260,hx260_0⟩ := Kd.at_string (Kd.R_reads' HO256.out).2.2 0 p260 q260; cases e260; have qi260 : (0 < t254.length) = True := eq_true (by omega); (try rw [show ((0 : Int)).toNat = 0 from rfl] at hx260_0); (try rw [Addr.add_zero'] at hx260_0); replace p260 := eq_true p260; replace q260 := eq_true q260) | ((with_reducible refine gate_callee (f:=40) rfl ?_); refine goesL_ (some 37) rfl rfl Tryz.func40 (by kernel_rfl) rfl #[.string (rdOf ByteArray.empty t254 0)] rfl mA ?_; (with_reducible refine (spec_l02Number.calls k1 (rdOf ByteArray.empty t254 0) t261 true _ A14.out).mono ?_); rintro e w31 ⟨rfl,hb⟩; refine ⟨_,rfl,?_⟩; have n0_ := Aside0.mk (Kd.R_below (rA HO_4.out) hb); have n1_ := Aside0.mk (Kd.R_below (rA HO_5.out) hb); have n2_ := Aside0.mk (Kd.R_below (rA HO256.out) hb); have n3_ := Aside0.mk (below_step bA hb); clear HO_4; clear HO_5; clear HO256; clear HB; have HO_4 := n0_; have HO_5 := n1_; have HO256 := n2_; have HB := n3_; clear n0_ n1_ n2_ n3_; (try clear hb); (try clear hb2); (try clear hk); (try clear hi); have p263 : 0 ≤ (1 : Int) := (by omega); have q263 : 1 < (t254.length : Int) := od; obtain ⟨ad263,e263,hx263_0⟩ := Kd.at_string (Kd.R_reads' HO256.out).2.2 1 p263 q263; obtain rfl : ad260 = ad263 := (by injection e263); (try simp only [show (1 : Int).toNat = 1 from rfl,Nat.reduceMul,Nat.reduceEqDiff,Go.Addr.add,↓reduceIte] at hx263_0); have qi263 : (1 < t254.length) = True := eq_true (by omega); (try rw [show ((1 : Int)).toNat = 1 from rfl] at hx263_0); replace p263 := eq_true p263; replace q263 := eq_true q263) | ((with_reducible refine gate_callee (f:=41) rfl ?_); refine goesL_ (some 44) rfl rfl Tryz.func41 (by kernel_rfl) rfl #[.string (rdOf ByteArray.empty t254 1)] rfl mA ?_; (with_reducible refine (spec_l02Read.calls k1 (rdOf ByteArray.empty t254 1) t264 t265 t266 t267 t268 t269 false _ A16.out).mono ?_); rintro e w32 ⟨rfl,hb⟩; refine ⟨_,rfl,?_⟩; have n0_ := Aside0.mk (Kd.R_below (rA HO_4.out) hb); have n1_ := Aside0.mk (Kd.R_below (rA HO_5.out) hb); have n2_ := Aside0.mk (Kd.R_below (rA HO256.out) hb); have n3_ := Aside0.mk (below_step bA hb); clear HO_4; clear HO_5; clear HO256; clear HB; have HO_4 := n0_; have HO_5 := n1_; have HO256 := n2_; have HB := n3_; clear n0_ n1_ n2_ n3_; (try clear hb); (try clear hb2); (try clear hk); (try clear hi)) | ((with_reducible refine gate_dst (N:=10) rfl ?_); refine box_event ?hg (N:=10) ?hd (cs := #[.int .i64 0,.int .i64 0,.int .i64 0,.int .i64 0,.int .i64 0,.int .i64 0]) (t:=26) ?hr ?_; (case hd => rfl); (case hg => rfl); (case hr => first | (go_simp; done) | (go_simp; rfl)); intro gb271 hg w33 hbox hb; have n0_ := Aside0.mk (Kd.R_below (rA HO_4.out) hb); have n1_ := Aside0.mk (Kd.R_below (rA HO_5.out) hb); have n2_ := Aside0.mk (Kd.R_below (rA HO256.out) hb); have n3_ := Aside0.mk (below_step bA hb); have n4_ := Aside0.mk (hbox); have n5_ := Aside0.mk ((gw hg : w.heap.size ≤ gb271)); have n6_ := Aside0.mk ((gw hg : w.heap.size ≤ gb271)); clear HO_4; clear HO_5; clear HO256; clear HB; have HO_4 := n0_; have HO_5 := n1_; have HO256 := n2_; have HB := n3_; have BK271 := n4_; have GW271 := n5_; have GE271 := n6_; clear n0_ n1_ n2_ n3_ n4_ n5_ n6_; clear hb hbox hg; have hcz34_0 : w33.cell? ⟨gb271,0,none⟩ = some (.int .i64 0) := (blk_cell BK271.out 0).trans rfl; have hcz34_1 : w33.cell? ⟨gb271,1,none⟩ = some (.int .i64 0) := (blk_cell BK271.out 1).trans rfl; have hcz34_2 : w33.cell? ⟨gb271,2,none⟩ = some (.int .i64 0) := (blk_cell BK271.out 2).trans rfl; have hcz34_3 : w33.cell? ⟨gb271,3,none⟩ = some (.int .i64 0) := (blk_cell BK271.out 3).trans rfl; have hcz34_4 : w33.cell? ⟨gb271,4,none⟩ = some (.int .i64 0) := (blk_cell BK271.out 4).trans rfl; have hcz34_5 : w33.cell? ⟨gb271,5,none⟩ = some (.int .i64 0) := (blk_cell BK271.out 5).trans rfl; have hfz34_0 := blk_frozen BK271.out 0; have hfz34_1 := blk_frozen BK271.out 1; have hfz34_2 := blk_frozen BK271.out 2; have hfz34_3 := blk_frozen BK271.out 3; have hfz34_4 := blk_frozen BK271.out 4; have hfz34_5 := blk_frozen BK271.out 5) | ((with_reducible refine gate_dst (N:=53) rfl ?_); refine Kd.R_lit k75 _ 75 ?hg (N:=53) ?hd (xs := ([] : List (S75))) (inner := []) (ok := fun _ => True) (okp := fun _ => True) ?hr ?hp (fun _ hk => hk) trivial (Below.refl _ _) (Nat.le_refl _) (by simp) ?_; (case hd => rfl); (case hg => rfl); (case hr => first | (go_simp; done) | (go_simp; rfl)); (case hp => exact (Reps.none _ _)); intro v276 w35 ho36 hb hg_ hnew_; clear hg_ hnew_; (first | rw [← Ny275.out] at ho36 | (simp only [Int.reduceToNat] at ho36; rw [← Ny275.out] at ho36)); have n0_ := Aside0.mk (Kd.R_elder' (by (with_reducible repeat (first | apply Kd.R_alloc | apply Kd.R_drewN | apply Kd.R_drew)); exact (Kd.R_mono (Kd.R_far (p:=⟨gb271,5,none⟩) (Kd.R_far (p:=⟨gb271,4,none⟩) (Kd.R_far (p:=⟨gb271,3,none⟩) (Kd.R_far (p:=⟨gb271,2,none⟩) (Kd.R_far (p:=⟨gb271,1,none⟩) (Kd.R_far (p:=⟨gb271,0,none⟩) (Kd.R_types HO_4.out BK271.out (by decide)) (fun _ hk => hk.2) (.int .i64 t264)) (fun _ hk => hk.2) (.int .i64 t265)) (fun _ hk => hk.2) (.int .i64 t266)) (fun _ hk => hk.2) (.int .i64 t267)) (fun _ hk => hk.2) (.int .i64 t268)) (fun _ hk => hk.2) (.int .i64 t269)) (fun _ h_ => h_.1))) (Kd.R_base ho36) hb); have n1_ := Aside0.mk (Kd.R_below (by (with_reducible repeat (first | apply Kd.R_alloc | apply Kd.R_drewN | apply Kd.R_drew)); exact (Kd.R_mono (Kd.R_far (p:=⟨gb271,5,none⟩) (Kd.R_far (p:=⟨gb271,4,none⟩) (Kd.R_far (p:=⟨gb271,3,none⟩) (Kd.R_far (p:=⟨gb271,2,none⟩) (Kd.R_far (p:=⟨gb271,1,none⟩) (Kd.R_far (p:=⟨gb271,0,none⟩) (Kd.R_types HO_5.out BK271.out (by decide)) (fun _ hk => hk.2) (.int .i64 t264)) (fun _ hk => hk.2) (.int .i64 t265)) (fun _ hk => hk.2) (.int .i64 t266)) (fun _ hk => hk.2) (.int .i64 t267)) (fun _ hk => hk.2) (.int .i64 t268)) (fun _ hk => hk.2) (.int .i64 t269)) (fun _ h_ => h_.1))) hb); have n2_ := Aside0.mk (Kd.R_below (by (with_reducible repeat (first | apply Kd.R_alloc | apply Kd.R_drewN | apply Kd.R_drew)); exact (Kd.R_mono (Kd.R_far (p:=⟨gb271,5,none⟩) (Kd.R_far (p:=⟨gb271,4,none⟩) (Kd.R_far (p:=⟨gb271,3,none⟩) (Kd.R_far (p:=⟨gb271,2,none⟩) (Kd.R_far (p:=⟨gb271,1,none⟩) (Kd.R_far (p:=⟨gb271,0,none⟩) (Kd.R_types HO256.out BK271.out (by decide)) (fun _ hk => hk.2) (.int .i64 t264)) (fun _ hk => hk.2) (.int .i64 t265)) (fun _ hk => hk.2) (.int .i64 t266)) (fun _ hk => hk.2) (.int .i64 t267)) (fun _ hk => hk.2) (.int .i64 t268)) (fun _ hk => hk.2) (.int .i64 t269)) (fun _ h_ => h_.1))) hb); have n3_ := Aside0.mk (Kd.R_lower (Kd.R_new' ho36 (Kd.R_lt (by (with_reducible repeat (first | apply Kd.R_alloc | apply Kd.R_drewN | apply Kd.R_drew)); exact (Kd.R_mono (Kd.R_far (p:=⟨gb271,5,none⟩) (Kd.R_far (p:=⟨gb271,4,none⟩) (Kd.R_far (p:=⟨gb271,3,none⟩) (Kd.R_far (p:=⟨gb271,2,none⟩) (Kd.R_far (p:=⟨gb271,1,none⟩) (Kd.R_far (p:=⟨gb271,0,none⟩) (Kd.R_types HO_4.out BK271.out (by decide)) (fun _ hk => hk.2) (.int .i64 t264)) (fun _ hk => hk.2) (.int .i64 t265)) (fun _ hk => hk.2) (.int .i64 t266)) (fun _ hk => hk.2) (.int .i64 t267)) (fun _ hk => hk.2) (.int .i64 t268)) (fun _ hk => hk.2) (.int .i64 t269)) (fun _ h_ => h_.1))))) (below_size bA)); have n4_ := Aside0.mk (blk_below (g:=gb271) (o:=.cells #[.int .i64 t264,.int .i64 t265,.int .i64 t266,.int .i64 t267,.int .i64 t268,.int .i64 t269] 26 (0,0)) (by (with_reducible repeat (first | refine blk_drewN ?_ _ | refine blk_drew ?_ | refine blk_alloc ?_ _)); apply blkp6; (with_reducible repeat (first | refine blk_drewN ?_ _ | refine blk_drew ?_ | refine blk_alloc ?_ _)); exact BK271.out) hb); have n5_ := Aside0.mk (below_step bA hb); clear HO_4; clear HO_5; clear HO256; clear BK271; clear HB; have HO_4 := n0_; have HO_5 := n1_; have HO256 := n2_; have HO277 := n3_; have BK271 := n4_; have HB := n5_; clear n0_ n1_ n2_ n3_ n4_ n5_; clear hb ho36))
           go_ret2
           exact ⟨_,by first | rfl | (simp only [i64_w,i32_w] <;> rfl) | (simp [errW_none,errW_some] <;> rfl) | (simp [*,errW_none,errW_some] <;> rfl),by (with_reducible repeat (first | apply Kd.R_alloc | apply Kd.R_drewN | apply Kd.R_drew)); exact Kd.R_mono HO277.out (fun _ hk => trivial),bA⟩
         ·replace c17 := Bool.eq_false_iff.mpr c17
          subst c17
          rw [if_neg (show ¬ (false = true) by decide)] at H
          obtain ⟨y278,hy278⟩ : ∃ y_ : List (S75),y_ = (([] : List (S75))) := ⟨_,rfl⟩
          replace H : (some (y278,false)) = some (r1,r2) := by first | (rw [hy278]; with_reducible exact H) | (have H2_ := (Option.bind_some _ _).symm.trans H; rw [hy278]; with_reducible exact H2_) | (have H2_ := (Option.bind_some _ _).symm.trans H; with_reducible exact H2_) | with_reducible exact H | (rw [hy278]; exact H) | exact H
          have Ny278 := Aside0.mk hy278
          clear hy278
          simp only [Option.some.injEq,Prod.mk.injEq] at H
          obtain ⟨rfl,rfl⟩ := H
          obtain ⟨Ao37,co37,eo37⟩ := Kd.R_slice HO_5.out
          subst eo37
          have p253 : 0 ≤ (x6_1 : Int) := od
          have q253 : x6_1 < (t250.length : Int) := od
          obtain ⟨ad253,e253,hx253_0⟩ := Kd.at_string (Kd.R_reads' HO_5.out).2.2 x6_1 p253 q253
          cases e253
          replace p253 := eq_true p253
          replace q253 := eq_true q253
          go_wp2_with (first | ((with_reducible refine gate_callee (f:=32) rfl ?_); refine goesL_ (some 28) rfl rfl Tryz.func32 (by kernel_rfl) rfl #[.string (rdOf ByteArray.empty t250 x6_1),.int .u8 58] rfl mA ?_; (with_reducible refine (spec_l00Cut.calls k1 (rdOf ByteArray.empty t250 x6_1) 58 t254 _ A11.out).mono ?_); rintro e w38 ⟨v255,rfl,ho0,hb⟩; refine ⟨_,rfl,?_⟩; have n0_ := Aside0.mk (Kd.R_below (rA HO_4.out) hb); have n1_ := Aside0.mk (Kd.R_elder' (rA HO_5.out) (Kd.R_base ho0) hb); have n2_ := Aside0.mk (Kd.R_lower (Kd.R_new' ho0 (Kd.R_lt (rA HO_5.out))) (below_size bA)); have n3_ := Aside0.mk (below_step bA hb); clear HO_4; clear HO_5; clear HB; have HO_4 := n0_; have HO_5 := n1_; have HO256 := n2_; have HB := n3_; clear n0_ n1_ n2_ n3_; (try clear hb); (try clear hb2); (try clear hk); (try clear hi); (try clear ho0); obtain ⟨Ao39,co39,eo39⟩ := Kd.R_slice HO256.out; subst eo39; have p260 : 0 ≤ (0 : Int) := (by omega); have q260 : 0 < (t254.length : Int) := od; obtain ⟨ad260,e260,hx260_0⟩ := Kd.at_string (Kd.R_reads' HO256.out).2.2 0 p260 q260; cases e260; have qi260 : (0 < t254.length) = True := eq_true (by omega); (try rw [show ((0 : Int)).toNat = 0 from rfl] at hx260_0); (try rw [Addr.add_zero'] at hx260_0); replace p260 := eq_true p260; replace q260 := eq_true q260) | ((with_reducible refine gate_callee (f:=40) rfl ?_); refine goesL_ (some 37) rfl rfl Tryz.func40 (by kernel_rfl) rfl #[.string (rdOf ByteArray.empty t254 0)] rfl mA ?_; (with_reducible refine (spec_l02Number.calls k1 (rdOf ByteArray.empty t254 0) t261 false _ A14.out).mono ?_); rintro e w40 ⟨rfl,hb⟩; refine ⟨_,rfl,?_⟩; have n0_ := Aside0.mk (Kd.R_below (rA HO_4.out) hb); have n1_ := Aside0.mk (Kd.R_below (rA HO_5.out) hb); have n2_ := Aside0.mk (Kd.R_below (rA HO256.out) hb); have n3_ := Aside0.mk (below_step bA hb); clear HO_4; clear HO_5; clear HO256; clear HB; have HO_4 := n0_; have HO_5 := n1_; have HO256 := n2_; have HB := n3_; clear n0_ n1_ n2_ n3_; (try clear hb); (try clear hb2); (try clear hk); (try clear hi); have p263 : 0 ≤ (1 : Int) := (by omega); have q263 : 1 < (t254.length : Int) := od; obtain ⟨ad263,e263,hx263_0⟩ := Kd.at_string (Kd.R_reads' HO256.out).2.2 1 p263 q263; obtain rfl : ad260 = ad263 := (by injection e263); (try simp only [show (1 : Int).toNat = 1 from rfl,Nat.reduceMul,Nat.reduceEqDiff,Go.Addr.add,↓reduceIte] at hx263_0); have qi263 : (1 < t254.length) = True := eq_true (by omega); (try rw [show ((1 : Int)).toNat = 1 from rfl] at hx263_0); replace p263 := eq_true p263; replace q263 := eq_true q263) | ((with_reducible refine gate_callee (f:=41) rfl ?_); refine goesL_ (some 44) rfl rfl Tryz.func41 (by kernel_rfl) rfl #[.string (rdOf ByteArray.empty t254 1)] rfl mA ?_; (with_reducible refine (spec_l02Read.calls k1 (rdOf ByteArray.empty t254 1) t264 t265 t266 t267 t268 t269 t270 _ A16.out).mono ?_); rintro e w41 ⟨rfl,hb⟩; refine ⟨_,rfl,?_⟩; have n0_ := Aside0.mk (Kd.R_below (rA HO_4.out) hb); have n1_ := Aside0.mk (Kd.R_below (rA HO_5.out) hb); have n2_ := Aside0.mk (Kd.R_below (rA HO256.out) hb); have n3_ := Aside0.mk (below_step bA hb); clear HO_4; clear HO_5; clear HO256; clear HB; have HO_4 := n0_; have HO_5 := n1_; have HO256 := n2_; have HB := n3_; clear n0_ n1_ n2_ n3_; (try clear hb); (try clear hb2); (try clear hk); (try clear hi)) | ((with_reducible refine gate_dst (N:=10) rfl ?_); refine box_event ?hg (N:=10) ?hd (cs := #[.int .i64 0,.int .i64 0,.int .i64 0,.int .i64 0,.int .i64 0,.int .i64 0]) (t:=26) ?hr ?_; (case hd => rfl); (case hg => rfl); (case hr => first | (go_simp; done) | (go_simp; rfl)); intro gb271 hg w42 hbox hb; have n0_ := Aside0.mk (Kd.R_below (rA HO_4.out) hb); have n1_ := Aside0.mk (Kd.R_below (rA HO_5.out) hb); have n2_ := Aside0.mk (Kd.R_below (rA HO256.out) hb); have n3_ := Aside0.mk (below_step bA hb); have n4_ := Aside0.mk (hbox); have n5_ := Aside0.mk ((gw hg : w.heap.size ≤ gb271)); have n6_ := Aside0.mk ((gw hg : w.heap.size ≤ gb271)); clear HO_4; clear HO_5; clear HO256; clear HB; have HO_4 := n0_; have HO_5 := n1_; have HO256 := n2_; have HB := n3_; have BK271 := n4_; have GW271 := n5_; have GE271 := n6_; clear n0_ n1_ n2_ n3_ n4_ n5_ n6_; clear hb hbox hg; have hcz43_0 : w42.cell? ⟨gb271,0,none⟩ = some (.int .i64 0) := (blk_cell BK271.out 0).trans rfl; have hcz43_1 : w42.cell? ⟨gb271,1,none⟩ = some (.int .i64 0) := (blk_cell BK271.out 1).trans rfl; have hcz43_2 : w42.cell? ⟨gb271,2,none⟩ = some (.int .i64 0) := (blk_cell BK271.out 2).trans rfl; have hcz43_3 : w42.cell? ⟨gb271,3,none⟩ = some (.int .i64 0) := (blk_cell BK271.out 3).trans rfl; have hcz43_4 : w42.cell? ⟨gb271,4,none⟩ = some (.int .i64 0) := (blk_cell BK271.out 4).trans rfl; have hcz43_5 : w42.cell? ⟨gb271,5,none⟩ = some (.int .i64 0) := (blk_cell BK271.out 5).trans rfl; have hfz43_0 := blk_frozen BK271.out 0; have hfz43_1 := blk_frozen BK271.out 1; have hfz43_2 := blk_frozen BK271.out 2; have hfz43_3 := blk_frozen BK271.out 3; have hfz43_4 := blk_frozen BK271.out 4; have hfz43_5 := blk_frozen BK271.out 5) | ((with_reducible refine gate_dst (N:=53) rfl ?_); refine Kd.R_lit k75 _ 75 ?hg (N:=53) ?hd (xs := ([] : List (S75))) (inner := []) (ok := fun _ => True) (okp := fun _ => True) ?hr ?hp (fun _ hk => hk) trivial (Below.refl _ _) (Nat.le_refl _) (by simp) ?_; (case hd => rfl); (case hg => rfl); (case hr => first | (go_simp; done) | (go_simp; rfl)); (case hp => exact (Reps.none _ _)); intro v279 w44 ho45 hb hg_ hnew_; clear hg_ hnew_; (first | rw [← Ny278.out] at ho45 | (simp only [Int.reduceToNat] at ho45; rw [← Ny278.out] at ho45)); have n0_ := Aside0.mk (Kd.R_elder' (by (with_reducible repeat (first | apply Kd.R_alloc | apply Kd.R_drewN | apply Kd.R_drew)); exact (Kd.R_mono (Kd.R_far (p:=⟨gb271,5,none⟩) (Kd.R_far (p:=⟨gb271,4,none⟩) (Kd.R_far (p:=⟨gb271,3,none⟩) (Kd.R_far (p:=⟨gb271,2,none⟩) (Kd.R_far (p:=⟨gb271,1,none⟩) (Kd.R_far (p:=⟨gb271,0,none⟩) (Kd.R_types HO_4.out BK271.out (by decide)) (fun _ hk => hk.2) (.int .i64 t264)) (fun _ hk => hk.2) (.int .i64 t265)) (fun _ hk => hk.2) (.int .i64 t266)) (fun _ hk => hk.2) (.int .i64 t267)) (fun _ hk => hk.2) (.int .i64 t268)) (fun _ hk => hk.2) (.int .i64 t269)) (fun _ h_ => h_.1))) (Kd.R_base ho45) hb); have n1_ := Aside0.mk (Kd.R_below (by (with_reducible repeat (first | apply Kd.R_alloc | apply Kd.R_drewN | apply Kd.R_drew)); exact (Kd.R_mono (Kd.R_far (p:=⟨gb271,5,none⟩) (Kd.R_far (p:=⟨gb271,4,none⟩) (Kd.R_far (p:=⟨gb271,3,none⟩) (Kd.R_far (p:=⟨gb271,2,none⟩) (Kd.R_far (p:=⟨gb271,1,none⟩) (Kd.R_far (p:=⟨gb271,0,none⟩) (Kd.R_types HO_5.out BK271.out (by decide)) (fun _ hk => hk.2) (.int .i64 t264)) (fun _ hk => hk.2) (.int .i64 t265)) (fun _ hk => hk.2) (.int .i64 t266)) (fun _ hk => hk.2) (.int .i64 t267)) (fun _ hk => hk.2) (.int .i64 t268)) (fun _ hk => hk.2) (.int .i64 t269)) (fun _ h_ => h_.1))) hb); have n2_ := Aside0.mk (Kd.R_below (by (with_reducible repeat (first | apply Kd.R_alloc | apply Kd.R_drewN | apply Kd.R_drew)); exact (Kd.R_mono (Kd.R_far (p:=⟨gb271,5,none⟩) (Kd.R_far (p:=⟨gb271,4,none⟩) (Kd.R_far (p:=⟨gb271,3,none⟩) (Kd.R_far (p:=⟨gb271,2,none⟩) (Kd.R_far (p:=⟨gb271,1,none⟩) (Kd.R_far (p:=⟨gb271,0,none⟩) (Kd.R_types HO256.out BK271.out (by decide)) (fun _ hk => hk.2) (.int .i64 t264)) (fun _ hk => hk.2) (.int .i64 t265)) (fun _ hk => hk.2) (.int .i64 t266)) (fun _ hk => hk.2) (.int .i64 t267)) (fun _ hk => hk.2) (.int .i64 t268)) (fun _ hk => hk.2) (.int .i64 t269)) (fun _ h_ => h_.1))) hb); have n3_ := Aside0.mk (Kd.R_lower (Kd.R_new' ho45 (Kd.R_lt (by (with_reducible repeat (first | apply Kd.R_alloc | apply Kd.R_drewN | apply Kd.R_drew)); exact (Kd.R_mono (Kd.R_far (p:=⟨gb271,5,none⟩) (Kd.R_far (p:=⟨gb271,4,none⟩) (Kd.R_far (p:=⟨gb271,3,none⟩) (Kd.R_far (p:=⟨gb271,2,none⟩) (Kd.R_far (p:=⟨gb271,1,none⟩) (Kd.R_far (p:=⟨gb271,0,none⟩) (Kd.R_types HO_4.out BK271.out (by decide)) (fun _ hk => hk.2) (.int .i64 t264)) (fun _ hk => hk.2) (.int .i64 t265)) (fun _ hk => hk.2) (.int .i64 t266)) (fun _ hk => hk.2) (.int .i64 t267)) (fun _ hk => hk.2) (.int .i64 t268)) (fun _ hk => hk.2) (.int .i64 t269)) (fun _ h_ => h_.1))))) (below_size bA)); have n4_ := Aside0.mk (blk_below (g:=gb271) (o:=.cells #[.int .i64 t264,.int .i64 t265,.int .i64 t266,.int .i64 t267,.int .i64 t268,.int .i64 t269] 26 (0,0)) (by (with_reducible repeat (first | refine blk_drewN ?_ _ | refine blk_drew ?_ | refine blk_alloc ?_ _)); apply blkp6; (with_reducible repeat (first | refine blk_drewN ?_ _ | refine blk_drew ?_ | refine blk_alloc ?_ _)); exact BK271.out) hb); have n5_ := Aside0.mk (below_step bA hb); clear HO_4; clear HO_5; clear HO256; clear BK271; clear HB; have HO_4 := n0_; have HO_5 := n1_; have HO256 := n2_; have HO280 := n3_; have BK271 := n4_; have HB := n5_; clear n0_ n1_ n2_ n3_ n4_ n5_; clear hb ho45))
          go_ret2
          exact ⟨_,by first | rfl | (simp only [i64_w,i32_w] <;> rfl) | (simp [errW_none,errW_some] <;> rfl) | (simp [*,errW_none,errW_some] <;> rfl),by (with_reducible repeat (first | apply Kd.R_alloc | apply Kd.R_drewN | apply Kd.R_drew)); exact Kd.R_mono HO280.out (fun _ hk => trivial),bA⟩
        ·rw [if_neg c15] at H
         exact absurd H (by simp)
       ·rw [if_neg c13] at H
        exact absurd H (by simp)
      ·rw [if_neg c12] at H
       have c12b0 : ((t254.length : Int) == 2) = false := beq_eq_false_iff_ne.mpr c12
       have c12b1 : ((t254.length : Int) != 2) = true := bne_iff_ne.mpr c12
       obtain ⟨y257,hy257⟩ : ∃ y_ : List (S75),y_ = (([] : List (S75))) := ⟨_,rfl⟩
       replace H : (some (y257,false)) = some (r1,r2) := by first | (rw [hy257]; with_reducible exact H) | (have H2_ := (Option.bind_some _ _).symm.trans H; rw [hy257]; with_reducible exact H2_) | (have H2_ := (Option.bind_some _ _).symm.trans H; with_reducible exact H2_) | with_reducible exact H | (rw [hy257]; exact H) | exact H
       have Ny257 := Aside0.mk hy257
       clear hy257
       simp only [Option.some.injEq,Prod.mk.injEq] at H
       obtain ⟨rfl,rfl⟩ := H
       obtain ⟨Ao46,co46,eo46⟩ := Kd.R_slice HO_5.out
       subst eo46
       have p253 : 0 ≤ (x6_1 : Int) := od
       have q253 : x6_1 < (t250.length : Int) := od
       obtain ⟨ad253,e253,hx253_0⟩ := Kd.at_string (Kd.R_reads' HO_5.out).2.2 x6_1 p253 q253
       cases e253
       replace p253 := eq_true p253
       replace q253 := eq_true q253
       go_wp2_with (first | ((with_reducible refine gate_callee (f:=32) rfl ?_); refine goesL_ (some 28) rfl rfl Tryz.func32 (by kernel_rfl) rfl #[.string (rdOf ByteArray.empty t250 x6_1),.int .u8 58] rfl mA ?_; (with_reducible refine (spec_l00Cut.calls k1 (rdOf ByteArray.empty t250 x6_1) 58 t254 _ A11.out).mono ?_); rintro e w47 ⟨v255,rfl,ho0,hb⟩; refine ⟨_,rfl,?_⟩; have n0_ := Aside0.mk (Kd.R_below (rA HO_4.out) hb); have n1_ := Aside0.mk (Kd.R_elder' (rA HO_5.out) (Kd.R_base ho0) hb); have n2_ := Aside0.mk (Kd.R_lower (Kd.R_new' ho0 (Kd.R_lt (rA HO_5.out))) (below_size bA)); have n3_ := Aside0.mk (below_step bA hb); clear HO_4; clear HO_5; clear HB; have HO_4 := n0_; have HO_5 := n1_; have HO256 := n2_; have HB := n3_; clear n0_ n1_ n2_ n3_; (try clear hb); (try clear hb2); (try clear hk); (try clear hi); (try clear ho0); obtain ⟨Ao48,co48,eo48⟩ := Kd.R_slice HO256.out; subst eo48) | ((with_reducible refine gate_dst (N:=32) rfl ?_); refine Kd.R_lit k75 _ 75 ?hg (N:=32) ?hd (xs := ([] : List (S75))) (inner := []) (ok := fun _ => True) (okp := fun _ => True) ?hr ?hp (fun _ hk => hk) trivial (Below.refl _ _) (Nat.le_refl _) (by simp) ?_; (case hd => rfl); (case hg => rfl); (case hr => first | (go_simp; done) | (go_simp; rfl)); (case hp => exact (Reps.none _ _)); intro v258 w49 ho50 hb hg_ hnew_; clear hg_ hnew_; (first | rw [← Ny257.out] at ho50 | (simp only [Int.reduceToNat] at ho50; rw [← Ny257.out] at ho50)); have n0_ := Aside0.mk (Kd.R_elder' (rA HO_4.out) (Kd.R_base ho50) hb); have n1_ := Aside0.mk (Kd.R_below (rA HO_5.out) hb); have n2_ := Aside0.mk (Kd.R_below (rA HO256.out) hb); have n3_ := Aside0.mk (Kd.R_lower (Kd.R_new' ho50 (Kd.R_lt (rA HO_4.out))) (below_size bA)); have n4_ := Aside0.mk (below_step bA hb); clear HO_4; clear HO_5; clear HO256; clear HB; have HO_4 := n0_; have HO_5 := n1_; have HO256 := n2_; have HO259 := n3_; have HB := n4_; clear n0_ n1_ n2_ n3_ n4_; clear hb ho50))
       go_ret2
       exact ⟨_,by first | rfl | (simp only [i64_w,i32_w] <;> rfl) | (simp [errW_none,errW_some] <;> rfl) | (simp [*,errW_none,errW_some] <;> rfl),by (with_reducible repeat (first | apply Kd.R_alloc | apply Kd.R_drewN | apply Kd.R_drew)); exact Kd.R_mono HO259.out (fun _ hk => trivial),bA⟩
     ·rw [if_neg c10] at H
      exact absurd H (by simp)
    ·rw [if_neg c9] at H
     have c9b0 : decide (x6_1 < (t250.length : Int)) = false := decide_eq_false c9
     clear c9
     replace H := Option.bind_eq_some_iff.mp H
     obtain ⟨t281,A510,H⟩ := H
     try dsimp only at H
     have A51 := Aside0.mk A510
     clear A510
     by_cases c52 : t281 = true
     ·subst c52
      rw [if_pos rfl] at H
      simp only [Option.some.injEq,Prod.mk.injEq] at H
      obtain ⟨rfl,rfl⟩ := H
      obtain ⟨Ao53,co53,eo53⟩ := Kd.R_slice HO_5.out
      subst eo53
      obtain ⟨Ao54,co54,eo54⟩ := Kd.R_slice HO_4.out
      subst eo54
      go_wp2_with (first | ((with_reducible refine gate_callee (f:=42) rfl ?_); refine goesL_ (some 61) rfl rfl Tryz.func42 (by kernel_rfl) rfl #[.slice Ao54 x4_1.length co54] rfl mA ?_; (with_reducible refine (spec_BucketsOK.calls k1 _ _ x4_1 true _ ?side1 ?side2 A51.out).mono ?_); (case side1 => repeat (first | exact (Kd.R_reads' HO_4.out).2.2 | (with_reducible refine Kd.C_alloc ?_ _) | (with_reducible refine Kd.C_drewN ?_ _) | (with_reducible refine Kd.C_drew ?_))); (case side2 => exact (Kd.R_reads' HO_4.out).2.1); rintro e w55 ⟨rfl,hb⟩; refine ⟨_,rfl,?_⟩; have n0_ := Aside0.mk (Kd.R_below (rA HO_4.out) hb); have n1_ := Aside0.mk (Kd.R_below (rA HO_5.out) hb); have n2_ := Aside0.mk (below_step bA hb); clear HO_4; clear HO_5; clear HB; have HO_4 := n0_; have HO_5 := n1_; have HB := n2_; clear n0_ n1_ n2_; (try clear hb); (try clear hb2); (try clear hk); (try clear hi)))
      go_ret2
      exact ⟨_,by first | rfl | (simp only [i64_w,i32_w] <;> rfl) | (simp [errW_none,errW_some] <;> rfl) | (simp [*,errW_none,errW_some] <;> rfl),rA HO_4.out,bA⟩
     ·replace c52 := Bool.eq_false_iff.mpr c52
      subst c52
      rw [if_neg (show ¬ (false = true) by decide)] at H
      obtain ⟨y282,hy282⟩ : ∃ y_ : List (S75),y_ = (([] : List (S75))) := ⟨_,rfl⟩
      replace H : (some (y282,false)) = some (r1,r2) := by first | (rw [hy282]; with_reducible exact H) | (have H2_ := (Option.bind_some _ _).symm.trans H; rw [hy282]; with_reducible exact H2_) | (have H2_ := (Option.bind_some _ _).symm.trans H; with_reducible exact H2_) | with_reducible exact H | (rw [hy282]; exact H) | exact H
      have Ny282 := Aside0.mk hy282
      clear hy282
      simp only [Option.some.injEq,Prod.mk.injEq] at H
      obtain ⟨rfl,rfl⟩ := H
      obtain ⟨Ao56,co56,eo56⟩ := Kd.R_slice HO_5.out
      subst eo56
      obtain ⟨Ao57,co57,eo57⟩ := Kd.R_slice HO_4.out
      subst eo57
      go_wp2_with (first | ((with_reducible refine gate_callee (f:=42) rfl ?_); refine goesL_ (some 61) rfl rfl Tryz.func42 (by kernel_rfl) rfl #[.slice Ao57 x4_1.length co57] rfl mA ?_; (with_reducible refine (spec_BucketsOK.calls k1 _ _ x4_1 false _ ?side1 ?side2 A51.out).mono ?_); (case side1 => repeat (first | exact (Kd.R_reads' HO_4.out).2.2 | (with_reducible refine Kd.C_alloc ?_ _) | (with_reducible refine Kd.C_drewN ?_ _) | (with_reducible refine Kd.C_drew ?_))); (case side2 => exact (Kd.R_reads' HO_4.out).2.1); rintro e w58 ⟨rfl,hb⟩; refine ⟨_,rfl,?_⟩; have n0_ := Aside0.mk (Kd.R_below (rA HO_4.out) hb); have n1_ := Aside0.mk (Kd.R_below (rA HO_5.out) hb); have n2_ := Aside0.mk (below_step bA hb); clear HO_4; clear HO_5; clear HB; have HO_4 := n0_; have HO_5 := n1_; have HB := n2_; clear n0_ n1_ n2_; (try clear hb); (try clear hb2); (try clear hk); (try clear hi)) | ((with_reducible refine gate_dst (N:=63) rfl ?_); refine Kd.R_lit k75 _ 75 ?hg (N:=63) ?hd (xs := ([] : List (S75))) (inner := []) (ok := fun _ => True) (okp := fun _ => True) ?hr ?hp (fun _ hk => hk) trivial (Below.refl _ _) (Nat.le_refl _) (by simp) ?_; (case hd => rfl); (case hg => rfl); (case hr => first | (go_simp; done) | (go_simp; rfl)); (case hp => exact (Reps.none _ _)); intro v283 w59 ho60 hb hg_ hnew_; clear hg_ hnew_; (first | rw [← Ny282.out] at ho60 | (simp only [Int.reduceToNat] at ho60; rw [← Ny282.out] at ho60)); have n0_ := Aside0.mk (Kd.R_elder' (rA HO_4.out) (Kd.R_base ho60) hb); have n1_ := Aside0.mk (Kd.R_below (rA HO_5.out) hb); have n2_ := Aside0.mk (Kd.R_lower (Kd.R_new' ho60 (Kd.R_lt (rA HO_4.out))) (below_size bA)); have n3_ := Aside0.mk (below_step bA hb); clear HO_4; clear HO_5; clear HB; have HO_4 := n0_; have HO_5 := n1_; have HO284 := n2_; have HB := n3_; clear n0_ n1_ n2_ n3_; clear hb ho60))
      go_ret2
      exact ⟨_,by first | rfl | (simp only [i64_w,i32_w] <;> rfl) | (simp [errW_none,errW_some] <;> rfl) | (simp [*,errW_none,errW_some] <;> rfl),by (with_reducible repeat (first | apply Kd.R_alloc | apply Kd.R_drewN | apply Kd.R_drew)); exact Kd.R_mono HO284.out (fun _ hk => trivial),bA⟩

/-! ### spec_l04Fold: function 22 -/
def spec_l04Fold.l0 : Nat → List (S75) → Int → Int → Int → Int → Int → Int → Int → Int → Int → Option (Int × Int × Int × Int × Int × Int)
 | 0,_,_,_,_,_,_,_,_,_,_ => none
 | k + 1,x0,x1,x2,x8,x287000,x287001,x287002,x287003,x287004,x287005 => if x8 < (x0.length : Int) then (if 0 ≤ x8 then ((spec_l01In.f ((rd_T75 x0 x8).f0) x1 (wrap64 (x2 - 1))).bind fun t288 => (if t288 = true then ((spec_l02Merge.f x287000 x287001 x287002 x287003 x287004 x287005 ((rd_T75 x0 x8).f1.f0) ((rd_T75 x0 x8).f1.f1) ((rd_T75 x0 x8).f1.f2) ((rd_T75 x0 x8).f1.f3) ((rd_T75 x0 x8).f1.f4) ((rd_T75 x0 x8).f1.f5)).bind fun bt290 => (spec_l04Fold.l0 k x0 x1 x2 (wrap64 (x8 + 1)) bt290.1 bt290.2.1 bt290.2.2.1 bt290.2.2.2.1 bt290.2.2.2.2.1 bt290.2.2.2.2.2)) else (spec_l04Fold.l0 k x0 x1 x2 (wrap64 (x8 + 1)) x287000 x287001 x287002 x287003 x287004 x287005))) else (none)) else (some (x287000,x287001,x287002,x287003,x287004,x287005))
def spec_l04Fold.f (k : Nat) (l0 : List (S75)) (a1 : Int) (a2 : Int) : Option (Int × Int × Int × Int × Int × Int) := spec_l04Fold.l0 k l0 a1 a2 0 0 0 0 0 0 0
theorem spec_l04Fold.mono_l : ∀ k,(∀ y0 y1 y2 y3 y4 y5 y6 y7 y8 y9,LeO (spec_l04Fold.l0 k y0 y1 y2 y3 y4 y5 y6 y7 y8 y9) (spec_l04Fold.l0 (k + 1) y0 y1 y2 y3 y4 y5 y6 y7 y8 y9))
 | 0 => fun _ _ _ _ _ _ _ _ _ _ r h => by simp [spec_l04Fold.l0] at h
 | k + 1 => by
  have ih0 := spec_l04Fold.mono_l k
  ·intro y0 y1 y2 y3 y4 y5 y6 y7 y8 y9
   unfold spec_l04Fold.l0
   repeat' first
   | (with_reducible exact ih0 _ _ _ _ _ _ _ _ _ _)
   | (with_reducible exact LeO.refl _)
   | (with_reducible exact LeO.none _)
   | (with_reducible refine LeO.ite ?_ ?_)
   | (with_reducible refine LeO.bind ?_ (fun _ => ?_))
   | exact ih0 _ _ _ _ _ _ _ _ _ _
   | exact LeO.none _
   | refine LeO.ite ?_ ?_
   | refine LeO.bind ?_ (fun _ => ?_)
theorem spec_l04Fold.mono : ∀ a0 a1 a2 k,LeO (spec_l04Fold.f k a0 a1 a2) (spec_l04Fold.f (k + 1) a0 a1 a2) := by
 intro a0 a1 a2 k
 have ih0 := spec_l04Fold.mono_l k
 unfold spec_l04Fold.f
 repeat' first
   | (with_reducible exact ih0 _ _ _ _ _ _ _ _ _ _)
   | (with_reducible exact LeO.refl _)
   | (with_reducible exact LeO.none _)
   | (with_reducible refine LeO.ite ?_ ?_)
   | (with_reducible refine LeO.bind ?_ (fun _ => ?_))
   | exact ih0 _ _ _ _ _ _ _ _ _ _
   | exact LeO.none _
   | refine LeO.ite ?_ ?_
   | refine LeO.bind ?_ (fun _ => ?_)
def spec_l04Fold.T6 : Bool × List (List Nat × List Nat) := (true,[([],[]),([],[]),([],[]),([1,2],[1,2]),([3],[3]),([4],[4]),([0,5],[0,5]),([6,6,0,1,2,3,4,5,6],[6])])
def spec_l04Fold.B6 : List Nat := [0,0,0,6,14,30,63,127]
theorem spec_l04Fold.tab6 : rtab .any (opsOf Tryz.f22 6) = spec_l04Fold.T6 := by kernel_rfl
theorem spec_l04Fold.bits6 : waitsOk spec_l04Fold.T6.2 spec_l04Fold.B6 = true := by kernel_rfl
set_option maxHeartbeats 8000000 in
set_option maxRecDepth 100000 in
theorem spec_l04Fold.calls (k : Nat) (A0 : Option Addr) (c0 : Nat) (l0 : List (S75)) (a1 : Int) (a2 : Int) (r1 : Int) (r2 : Int) (r3 : Int) (r4 : Int) (r5 : Int) (r6 : Int) (w : World) (hr0 : Kd.C k75 w A0 l0.length l0) (hc0 : l0.length ≤ c0) (h : spec_l04Fold.f k l0 a1 a2 = some (r1,r2,r3,r4,r5,r6)) :
  Calls Tryz.prog 22 #[.slice A0 l0.length c0,.int .i64 a1,.int .i64 a2] w fun e w' => e = .returned (.agg #[.int .i64 r1,.int .i64 r2,.int .i64 r3,.int .i64 r4,.int .i64 r5,.int .i64 r6]) ∧ Below w.heap.size w w' := by
 have hu26 := Tryz.underlying26
 have HR0 := Aside0.mk hr0
 have HC0 := Aside0.mk hc0
 clear hr0 hc0
 have HB := Aside0.mk (Below.refl w.heap.size w)
 have H : (spec_l04Fold.l0 k l0 a1 a2 0 0 0 0 0 0 0) = some (r1,r2,r3,r4,r5,r6) := h
 clear h
 have H' := Aside0.mk H
 clear H
 go_enter Tryz.func22,Tryz.ntmps22
 go_wp2_with (first | ((with_reducible refine gate_dst (N:=6) rfl ?_); refine box_event ?hg (N:=6) ?hd (cs := #[.int .i64 0,.int .i64 0,.int .i64 0,.int .i64 0,.int .i64 0,.int .i64 0]) (t:=26) ?hr ?_; (case hd => rfl); (case hg => rfl); (case hr => first | (go_simp; done) | (go_simp; rfl)); intro gb285 hg w4 hbox hb; have n0_ := Aside0.mk (below_step bA hb); have n1_ := Aside0.mk (hbox); have n2_ := Aside0.mk ((gw hg : w.heap.size ≤ gb285)); have n3_ := Aside0.mk ((gw hg : w.heap.size ≤ gb285)); clear HB; have HB := n0_; have BK285 := n1_; have GW285 := n2_; have GE285 := n3_; clear n0_ n1_ n2_ n3_; clear hb hbox hg) | ((with_reducible refine gate_dst (N:=7) rfl ?_); refine box_event ?hg (N:=7) ?hd (cs := #[.int .i64 0,.int .i64 0,.int .i64 0,.int .i64 0,.int .i64 0,.int .i64 0]) (t:=26) ?hr ?_; (case hd => rfl); (case hg => rfl); (case hr => first | (go_simp; done) | (go_simp; rfl)); intro gb286 hg w5 hbox hb; have n0_ := Aside0.mk (blk_below (g:=gb285) (o:=.cells #[.int .i64 0,.int .i64 0,.int .i64 0,.int .i64 0,.int .i64 0,.int .i64 0] 26 (0,0)) (kA BK285.out) hb); have n1_ := Aside0.mk (below_step bA hb); have n2_ := Aside0.mk (hbox); have n3_ := Aside0.mk ((gw hg : w.heap.size ≤ gb286)); have n4_ := Aside0.mk ((gw hg : w.heap.size ≤ gb286)); have n5_ := Aside0.mk ((by rw [hg]; exact Nat.ne_of_lt (blk_lt (g:=gb285) (o:=.cells #[.int .i64 0,.int .i64 0,.int .i64 0,.int .i64 0,.int .i64 0,.int .i64 0] 26 (0,0)) (kA BK285.out)) : gb285 ≠ gb286)); have n6_ := Aside0.mk ((by rw [hg]; exact Nat.ne_of_gt (blk_lt (g:=gb285) (o:=.cells #[.int .i64 0,.int .i64 0,.int .i64 0,.int .i64 0,.int .i64 0,.int .i64 0] 26 (0,0)) (kA BK285.out)) : gb286 ≠ gb285)); clear BK285; clear HB; have BK285 := n0_; have HB := n1_; have BK286 := n2_; have GW286 := n3_; have GE286 := n4_; have NB285_286 := n5_; have NB286_285 := n6_; clear n0_ n1_ n2_ n3_ n4_ n5_ n6_; clear hb hbox hg; have hnb6 := NB286_285.out; have hnc6 := NB285_286.out; have hcz7_0 : w5.cell? ⟨gb286,0,none⟩ = some (.int .i64 0) := (blk_cell BK286.out 0).trans rfl; have hcz7_1 : w5.cell? ⟨gb286,1,none⟩ = some (.int .i64 0) := (blk_cell BK286.out 1).trans rfl; have hcz7_2 : w5.cell? ⟨gb286,2,none⟩ = some (.int .i64 0) := (blk_cell BK286.out 2).trans rfl; have hcz7_3 : w5.cell? ⟨gb286,3,none⟩ = some (.int .i64 0) := (blk_cell BK286.out 3).trans rfl; have hcz7_4 : w5.cell? ⟨gb286,4,none⟩ = some (.int .i64 0) := (blk_cell BK286.out 4).trans rfl; have hcz7_5 : w5.cell? ⟨gb286,5,none⟩ = some (.int .i64 0) := (blk_cell BK286.out 5).trans rfl; have hfz7_0 := blk_frozen BK286.out 0; have hfz7_1 := blk_frozen BK286.out 1; have hfz7_2 := blk_frozen BK286.out 2; have hfz7_3 := blk_frozen BK286.out 3; have hfz7_4 := blk_frozen BK286.out 4; have hfz7_5 := blk_frozen BK286.out 5))
 go_loopg [8] k (fun kq v8 w' => ∃ (x8_1 : Int) (x287000_1 : Int) (x287001_1 : Int) (x287002_1 : Int) (x287003_1 : Int) (x287004_1 : Int) (x287005_1 : Int),v8 = .int .i64 x8_1 ∧ Aside0 (spec_l04Fold.l0 kq l0 a1 a2 x8_1 x287000_1 x287001_1 x287002_1 x287003_1 x287004_1 x287005_1 = some (r1,r2,r3,r4,r5,r6)) ∧ Aside0 (kq ≤ k) ∧ Aside0 (w'.heap[gb285]? = some (.cells #[.int .i64 0,.int .i64 0,.int .i64 0,.int .i64 0,.int .i64 0,.int .i64 0] 26 (0,0))) ∧ Aside0 (w'.heap[gb286]? = some (.cells #[.int .i64 x287000_1,.int .i64 x287001_1,.int .i64 x287002_1,.int .i64 x287003_1,.int .i64 x287004_1,.int .i64 x287005_1] 26 (0,0))) ∧ Aside0 (Below w.heap.size w w'))
 case atStart => exact ⟨(0),(0),(0),(0),(0),(0),(0),(by first | rfl | (simp; done) | (simp [*]; done)),H',⟨Nat.le_refl _⟩,⟨kF BK285.out⟩,⟨by (with_reducible repeat (first | refine blk_drewN ?_ _ | refine blk_drew ?_ | refine blk_alloc ?_ _)); apply blkp6; (with_reducible repeat (first | refine blk_drewN ?_ _ | refine blk_drew ?_ | refine blk_alloc ?_ _)); exact BK286.out⟩,⟨bA⟩⟩
 case round =>
  clear H'
  try clear c2
  try clear p2
  try clear c6
  try clear hcz7_0
  try clear hcz7_1
  try clear hcz7_2
  try clear hcz7_3
  try clear hcz7_4
  try clear hcz7_5
  try clear hfz7_0
  try clear hfz7_1
  try clear hfz7_2
  try clear hfz7_3
  try clear hfz7_4
  try clear hfz7_5
  obtain ⟨x8_1,x287000_1,x287001_1,x287002_1,x287003_1,x287004_1,x287005_1,rfl,HA,HK1,BK285,BK286,HB⟩ := hrel
  cases gk with
  | zero => exact absurd HA.out (by simp [spec_l04Fold.l0])
  | succ k1 =>
   have H := HA.out
   clear HA
   simp only [spec_l04Fold.l0] at H
   by_cases c8 : x8_1 < (l0.length : Int)
   ·rw [if_pos c8] at H
    have c8b0 : decide (x8_1 < (l0.length : Int)) = true := decide_eq_true c8
    clear c8
    by_cases c9 : 0 ≤ x8_1
    ·rw [if_pos c9] at H
     have c9b0 : decide (0 ≤ x8_1) = true := decide_eq_true c9
     clear c9
     replace H := Option.bind_eq_some_iff.mp H
     obtain ⟨t288,A100,H⟩ := H
     try dsimp only at H
     have A10 := Aside0.mk A100
     clear A100
     by_cases c11 : t288 = true
     ·subst c11
      rw [if_pos rfl] at H
      replace H := Option.bind_eq_some_iff.mp H
      obtain ⟨⟨t290,t291,t292,t293,t294,t295⟩,A120,H⟩ := H
      try dsimp only at H
      have A12 := Aside0.mk A120
      clear A120
      have H' := Aside0.mk H
      clear H
      have p287 : 0 ≤ (x8_1 : Int) := od
      have q287 : x8_1 < (l0.length : Int) := od
      obtain ⟨ad287,e287,hx287_0,hx287_1,hx287_2,hx287_3,hx287_4,hx287_5,hx287_6⟩ := at_T75 HR0.out x8_1 p287 q287
      cases e287
      replace hx287_0 := cb HB.out hx287_0
      replace hx287_1 := cb HB.out hx287_1
      replace hx287_2 := cb HB.out hx287_2
      replace hx287_3 := cb HB.out hx287_3
      replace hx287_4 := cb HB.out hx287_4
      replace hx287_5 := cb HB.out hx287_5
      replace hx287_6 := cb HB.out hx287_6
      replace p287 := eq_true p287
      replace q287 := eq_true q287
      try go_wp2_with (first | ((with_reducible refine gate_callee (f:=18) rfl ?_); refine goesL_ (some 24) rfl rfl Tryz.func18 (by kernel_rfl) rfl #[.int .i64 ((rd_T75 l0 x8_1).f0),.int .i64 a1,.int .i64 (wrap64 (a2 - 1))] rfl mA ?_; (with_reducible refine (spec_l01In.calls ((rd_T75 l0 x8_1).f0) a1 (wrap64 (a2 - 1)) true _ A10.out).mono ?_); rintro e w' ⟨rfl,⟨nd,rfl⟩⟩; refine ⟨_,rfl,?_⟩; (try (rw [drewN_self wr]; generalize hq_ : World.drewN wr _ = wr; have n0_ : Aside0 (wr.heap[gb285]? = some (.cells #[.int .i64 0,.int .i64 0,.int .i64 0,.int .i64 0,.int .i64 0,.int .i64 0] 26 (0,0))) := ⟨by rw [← hq_]; exact (kA BK285.out)⟩; have n1_ : Aside0 (wr.heap[gb286]? = some (.cells #[.int .i64 x287000_1,.int .i64 x287001_1,.int .i64 x287002_1,.int .i64 x287003_1,.int .i64 x287004_1,.int .i64 x287005_1] 26 (0,0))) := ⟨by rw [← hq_]; exact (kA BK286.out)⟩; have n2_ : Aside0 (Below w.heap.size w wr) := ⟨by rw [← hq_]; exact bA⟩; clear BK285 BK286 HB hq_; have BK285 := n0_; have BK286 := n1_; have HB := n2_; clear n0_ n1_ n2_))))
      have n0_ := Aside0.mk (blk_drew BK285.out)
      have n1_ := Aside0.mk (blk_drew BK286.out)
      have n2_ := Aside0.mk (below_drew1 HB.out)
      clear BK285
      clear BK286
      clear HB
      have BK285 := n0_
      have BK286 := n1_
      have HB := n2_
      clear n0_ n1_ n2_
      have p289 : 0 ≤ (x8_1 : Int) := od
      have q289 : x8_1 < (l0.length : Int) := od
      obtain ⟨ad289,e289,hx289_0,hx289_1,hx289_2,hx289_3,hx289_4,hx289_5,hx289_6⟩ := at_T75 HR0.out x8_1 p289 q289
      have hw289_6 := hx289_6
      have hw289_5 := hx289_5
      have hw289_4 := hx289_4
      have hw289_3 := hx289_3
      have hw289_2 := hx289_2
      have hw289_1 := hx289_1
      have hw289_0 := hx289_0
      obtain rfl : ad287 = ad289 := (by injection e289)
      replace hx289_0 := cb HB.out hx289_0
      replace hx289_1 := cb HB.out hx289_1
      replace hx289_2 := cb HB.out hx289_2
      replace hx289_3 := cb HB.out hx289_3
      replace hx289_4 := cb HB.out hx289_4
      replace hx289_5 := cb HB.out hx289_5
      replace hx289_6 := cb HB.out hx289_6
      replace p289 := eq_true p289
      replace q289 := eq_true q289
      refine start_ (n:=8) (S:=fun w' => w'.cell? ⟨gb286,0,none⟩ = some (.int .i64 x287000_1) ∧ w'.cell? ⟨gb286,1,none⟩ = some (.int .i64 x287001_1) ∧ w'.cell? ⟨gb286,2,none⟩ = some (.int .i64 x287002_1) ∧ w'.cell? ⟨gb286,3,none⟩ = some (.int .i64 x287003_1) ∧ w'.cell? ⟨gb286,4,none⟩ = some (.int .i64 x287004_1) ∧ w'.cell? ⟨gb286,5,none⟩ = some (.int .i64 x287005_1) ∧ w'.cell? (ad287.add ((x8_1).toNat * 7)) = some (.int .i64 ((rd_T75 l0 x8_1).f0)) ∧ w'.cell? ⟨(ad287.add ((x8_1).toNat * 7)).block,(ad287.add ((x8_1).toNat * 7)).off + 1,none⟩ = some (.int .i64 ((rd_T75 l0 x8_1).f1.f0)) ∧ w'.cell? ⟨(ad287.add ((x8_1).toNat * 7)).block,(ad287.add ((x8_1).toNat * 7)).off + 2,none⟩ = some (.int .i64 ((rd_T75 l0 x8_1).f1.f1)) ∧ w'.cell? ⟨(ad287.add ((x8_1).toNat * 7)).block,(ad287.add ((x8_1).toNat * 7)).off + 3,none⟩ = some (.int .i64 ((rd_T75 l0 x8_1).f1.f2)) ∧ w'.cell? ⟨(ad287.add ((x8_1).toNat * 7)).block,(ad287.add ((x8_1).toNat * 7)).off + 4,none⟩ = some (.int .i64 ((rd_T75 l0 x8_1).f1.f3)) ∧ w'.cell? ⟨(ad287.add ((x8_1).toNat * 7)).block,(ad287.add ((x8_1).toNat * 7)).off + 5,none⟩ = some (.int .i64 ((rd_T75 l0 x8_1).f1.f4)) ∧ w'.cell? ⟨(ad287.add ((x8_1).toNat * 7)).block,(ad287.add ((x8_1).toNat * 7)).off + 6,none⟩ = some (.int .i64 ((rd_T75 l0 x8_1).f1.f5))) (ds := [7]) (bm 8 0) (by kernel_rfl) rfl rfl ⟨(blk_cell BK286.out 0).trans rfl,(blk_cell BK286.out 1).trans rfl,(blk_cell BK286.out 2).trans rfl,(blk_cell BK286.out 3).trans rfl,(blk_cell BK286.out 4).trans rfl,(blk_cell BK286.out 5).trans rfl,(cb HB.out hw289_0),(cb HB.out hw289_1),(cb HB.out hw289_2),(cb HB.out hw289_3),(cb HB.out hw289_4),(cb HB.out hw289_5),(cb HB.out hw289_6)⟩ (fun hHeld => ?_); refine with_tabW spec_l04Fold.tab6 spec_l04Fold.bits6 (fun HT_ HW_ => ?_)
      generalize wr.drew = w13 at BK285 BK286 HB hx289_0 hx289_1 hx289_2 hx289_3 hx289_4 hx289_5 hx289_6 hHeld ⊢
      refine pV_ 1 26 (bm 8 2) HT_.out ?_
      refine pV_ 2 27 (bm 8 6) HT_.out ?_
      refine pV_ 3 28 (bm 8 14) HT_.out ?_
      refine pV_ 4 29 (bm 8 30) HT_.out ?_
      refine take_ (i:=0) (N:=some 25) (v:=?_) (a':=?_) (bm 8 31) rfl rfl (take_ofW HT_.out HW_.out (by kernel_rfl)) (fun _ _ _ h => h) (Or.inl ⟨by rfl,?_⟩) hHeld ?_ ?_
      rotate_left
      ·rintro w' ⟨s0,s1,s2,s3,s4,s5,s6,s7,s8,s9,s10,s11,s12⟩
       go_simp
       with_reducible rfl
      rotate_left
      ·simp only [Act.put,setIfInBounds_toArray,set_cons_zero,set_cons_succ,i64_w,i32_w]
       rfl
      refine take_ (i:=5) (N:=some 30) (v:=?_) (a':=?_) (bm 8 63) rfl rfl (take_ofW HT_.out HW_.out (by kernel_rfl)) (fun _ _ _ h => h) (Or.inl ⟨by rfl,?_⟩) hHeld ?_ ?_
      rotate_left
      ·rintro w' ⟨s0,s1,s2,s3,s4,s5,s6,s7,s8,s9,s10,s11,s12⟩
       go_simp
       with_reducible rfl
      rotate_left
      ·simp only [Act.put,setIfInBounds_toArray,set_cons_zero,set_cons_succ,i64_w,i32_w]
       rfl
      refine one_ (i:=6) (N:=some 31) (bm 8 127) rfl rfl (one_of HT_.out (by kernel_rfl)) (by decide) (fun K hK => ?_)
      refine goes_ Tryz.func39 (by kernel_rfl) rfl #[.agg #[.int .i64 x287000_1,.int .i64 x287001_1,.int .i64 x287002_1,.int .i64 x287003_1,.int .i64 x287004_1,.int .i64 x287005_1],.agg #[.int .i64 ((rd_T75 l0 x8_1).f1.f0),.int .i64 ((rd_T75 l0 x8_1).f1.f1),.int .i64 ((rd_T75 l0 x8_1).f1.f2),.int .i64 ((rd_T75 l0 x8_1).f1.f3),.int .i64 ((rd_T75 l0 x8_1).f1.f4),.int .i64 ((rd_T75 l0 x8_1).f1.f5)]] (by rfl) rfl rfl mA ?_
      with_reducible refine (spec_l02Merge.calls x287000_1 x287001_1 x287002_1 x287003_1 x287004_1 x287005_1 ((rd_T75 l0 x8_1).f1.f0) ((rd_T75 l0 x8_1).f1.f1) ((rd_T75 l0 x8_1).f1.f2) ((rd_T75 l0 x8_1).f1.f3) ((rd_T75 l0 x8_1).f1.f4) ((rd_T75 l0 x8_1).f1.f5) t290 t291 t292 t293 t294 t295 _ A12.out).mono ?_
      rintro e w14 ⟨rfl,hb⟩
      refine ⟨_,rfl,?_⟩
      have n0_ := Aside0.mk (blk_below (g:=gb285) (o:=.cells #[.int .i64 0,.int .i64 0,.int .i64 0,.int .i64 0,.int .i64 0,.int .i64 0] 26 (0,0)) (kA BK285.out) hb)
      have n1_ := Aside0.mk (blk_below (g:=gb286) (o:=.cells #[.int .i64 x287000_1,.int .i64 x287001_1,.int .i64 x287002_1,.int .i64 x287003_1,.int .i64 x287004_1,.int .i64 x287005_1] 26 (0,0)) (kA BK286.out) hb)
      have n2_ := Aside0.mk (below_step bA hb)
      clear BK285
      clear BK286
      clear HB
      have BK285 := n0_
      have BK286 := n1_
      have HB := n2_
      clear n0_ n1_ n2_
      (try clear hb)
      (try clear hb2)
      (try clear hk)
      (try clear hi)
      refine hK.out _ _ ⟨(blk_cell BK286.out 0).trans rfl,(blk_cell BK286.out 1).trans rfl,(blk_cell BK286.out 2).trans rfl,(blk_cell BK286.out 3).trans rfl,(blk_cell BK286.out 4).trans rfl,(blk_cell BK286.out 5).trans rfl,(cb HB.out hw289_0),(cb HB.out hw289_1),(cb HB.out hw289_2),(cb HB.out hw289_3),(cb HB.out hw289_4),(cb HB.out hw289_5),(cb HB.out hw289_6)⟩ (fun hHeld => ?_)
      clear hK K
      refine norm_ (a':=?_) ?_ ?_
      rotate_left
      ·show Act.put _ (some 31) _ = _
       simp only [Act.put,setIfInBounds_toArray,set_cons_zero,set_cons_succ,i64_w,i32_w]
       rfl
      refine last_ (i:=7) (N:=none) (bm 8 255) rfl rfl (one_of HT_.out (by kernel_rfl)) (by decide) (fun K hK => ?_)
      have hs15 : w14.cell? ⟨gb286,0,none⟩ = some (.int .i64 x287000_1) := (blk_cell BK286.out 0).trans rfl
      have hfs15 := blk_frozen BK286.out 0
      have hns15_0 := NB285_286.out
      have hms15_0 := NB286_285.out
      have hs16 : w14.cell? ⟨gb286,1,none⟩ = some (.int .i64 x287001_1) := (blk_cell BK286.out 1).trans rfl
      have hfs16 := blk_frozen BK286.out 1
      have hns16_0 := NB285_286.out
      have hms16_0 := NB286_285.out
      have hs17 : w14.cell? ⟨gb286,2,none⟩ = some (.int .i64 x287002_1) := (blk_cell BK286.out 2).trans rfl
      have hfs17 := blk_frozen BK286.out 2
      have hns17_0 := NB285_286.out
      have hms17_0 := NB286_285.out
      have hs18 : w14.cell? ⟨gb286,3,none⟩ = some (.int .i64 x287003_1) := (blk_cell BK286.out 3).trans rfl
      have hfs18 := blk_frozen BK286.out 3
      have hns18_0 := NB285_286.out
      have hms18_0 := NB286_285.out
      have hs19 : w14.cell? ⟨gb286,4,none⟩ = some (.int .i64 x287004_1) := (blk_cell BK286.out 4).trans rfl
      have hfs19 := blk_frozen BK286.out 4
      have hns19_0 := NB285_286.out
      have hms19_0 := NB286_285.out
      have hs20 : w14.cell? ⟨gb286,5,none⟩ = some (.int .i64 x287005_1) := (blk_cell BK286.out 5).trans rfl
      have hfs20 := blk_frozen BK286.out 5
      have hns20_0 := NB285_286.out
      have hms20_0 := NB286_285.out
      refine skip_ (w1 := ?_) (by rfl) rfl ?_ ?_
      rotate_left
      ·go_simp
       rfl
      refine hK.out _ _ ?_
      clear hK K
      refine done_ (done_of HT_.out (by kernel_rfl)) ?_
      try go_wp2
      go_roundg k1
      case measure => have := HK1.out; omega
      case rel => exact ⟨(wrap64 (x8_1 + 1)),(t290),(t291),(t292),(t293),(t294),(t295),(by first | rfl | (simp; done) | (simp [*]; done)),H',⟨by have := HK1.out; omega⟩,⟨kF BK285.out⟩,⟨by (with_reducible repeat (first | refine blk_drewN ?_ _ | refine blk_drew ?_ | refine blk_alloc ?_ _)); apply blkp6; (with_reducible repeat (first | refine blk_drewN ?_ _ | refine blk_drew ?_ | refine blk_alloc ?_ _)); exact BK286.out⟩,⟨bA⟩⟩
     ·replace c11 := Bool.eq_false_iff.mpr c11
      subst c11
      rw [if_neg (show ¬ (false = true) by decide)] at H
      have H' := Aside0.mk H
      clear H
      have p287 : 0 ≤ (x8_1 : Int) := od
      have q287 : x8_1 < (l0.length : Int) := od
      obtain ⟨ad287,e287,hx287_0,hx287_1,hx287_2,hx287_3,hx287_4,hx287_5,hx287_6⟩ := at_T75 HR0.out x8_1 p287 q287
      cases e287
      replace hx287_0 := cb HB.out hx287_0
      replace hx287_1 := cb HB.out hx287_1
      replace hx287_2 := cb HB.out hx287_2
      replace hx287_3 := cb HB.out hx287_3
      replace hx287_4 := cb HB.out hx287_4
      replace hx287_5 := cb HB.out hx287_5
      replace hx287_6 := cb HB.out hx287_6
      replace p287 := eq_true p287
      replace q287 := eq_true q287
      go_wp2_with (first | ((with_reducible refine gate_callee (f:=18) rfl ?_); refine goesL_ (some 24) rfl rfl Tryz.func18 (by kernel_rfl) rfl #[.int .i64 ((rd_T75 l0 x8_1).f0),.int .i64 a1,.int .i64 (wrap64 (a2 - 1))] rfl mA ?_; (with_reducible refine (spec_l01In.calls ((rd_T75 l0 x8_1).f0) a1 (wrap64 (a2 - 1)) false _ A10.out).mono ?_); rintro e w' ⟨rfl,⟨nd,rfl⟩⟩; refine ⟨_,rfl,?_⟩))
      go_roundg k1
      case measure => have := HK1.out; omega
      case rel => exact ⟨(wrap64 (x8_1 + 1)),(x287000_1),(x287001_1),(x287002_1),(x287003_1),(x287004_1),(x287005_1),(by first | rfl | (simp; done) | (simp [*]; done)),H',⟨by have := HK1.out; omega⟩,⟨kA BK285.out⟩,⟨kA BK286.out⟩,⟨bA⟩⟩
    ·rw [if_neg c9] at H
     exact absurd H (by simp)
   ·rw [if_neg c8] at H
    have c8b0 : decide (x8_1 < (l0.length : Int)) = false := decide_eq_false c8
    clear c8
    simp only [Option.some.injEq,Prod.mk.injEq] at H
    obtain ⟨rfl,rfl,rfl,rfl,rfl,rfl⟩ := H
    have hnb21 := NB286_285.out
    have hnc21 := NB285_286.out
    have hcz22_0 : wr.cell? ⟨gb286,0,none⟩ = some (.int .i64 x287000_1) := (blk_cell BK286.out 0).trans rfl
    have hcz22_1 : wr.cell? ⟨gb286,1,none⟩ = some (.int .i64 x287001_1) := (blk_cell BK286.out 1).trans rfl
    have hcz22_2 : wr.cell? ⟨gb286,2,none⟩ = some (.int .i64 x287002_1) := (blk_cell BK286.out 2).trans rfl
    have hcz22_3 : wr.cell? ⟨gb286,3,none⟩ = some (.int .i64 x287003_1) := (blk_cell BK286.out 3).trans rfl
    have hcz22_4 : wr.cell? ⟨gb286,4,none⟩ = some (.int .i64 x287004_1) := (blk_cell BK286.out 4).trans rfl
    have hcz22_5 : wr.cell? ⟨gb286,5,none⟩ = some (.int .i64 x287005_1) := (blk_cell BK286.out 5).trans rfl
    have hfz22_0 := blk_frozen BK286.out 0
    have hfz22_1 := blk_frozen BK286.out 1
    have hfz22_2 := blk_frozen BK286.out 2
    have hfz22_3 := blk_frozen BK286.out 3
    have hfz22_4 := blk_frozen BK286.out 4
    have hfz22_5 := blk_frozen BK286.out 5
    have hcz23_0 : wr.cell? ⟨gb285,0,none⟩ = some (.int .i64 0) := (blk_cell BK285.out 0).trans rfl
    have hcz23_1 : wr.cell? ⟨gb285,1,none⟩ = some (.int .i64 0) := (blk_cell BK285.out 1).trans rfl
    have hcz23_2 : wr.cell? ⟨gb285,2,none⟩ = some (.int .i64 0) := (blk_cell BK285.out 2).trans rfl
    have hcz23_3 : wr.cell? ⟨gb285,3,none⟩ = some (.int .i64 0) := (blk_cell BK285.out 3).trans rfl
    have hcz23_4 : wr.cell? ⟨gb285,4,none⟩ = some (.int .i64 0) := (blk_cell BK285.out 4).trans rfl
    have hcz23_5 : wr.cell? ⟨gb285,5,none⟩ = some (.int .i64 0) := (blk_cell BK285.out 5).trans rfl
    have hfz23_0 := blk_frozen BK285.out 0
    have hfz23_1 := blk_frozen BK285.out 1
    have hfz23_2 := blk_frozen BK285.out 2
    have hfz23_3 := blk_frozen BK285.out 3
    have hfz23_4 := blk_frozen BK285.out 4
    have hfz23_5 := blk_frozen BK285.out 5
    go_wp2
    refine bodyPost_ret (results_cell_row rfl _ _ gb285 26 #[.int .i64 x287000_1,.int .i64 x287001_1,.int .i64 x287002_1,.int .i64 x287003_1,.int .i64 x287004_1,.int .i64 x287005_1] (0,0) _ rfl (by (with_reducible repeat (first | refine blk_drewN ?_ _ | refine blk_drew ?_ | refine blk_alloc ?_ _)); apply blkp6; (with_reducible repeat (first | refine blk_drewN ?_ _ | refine blk_drew ?_ | refine blk_alloc ?_ _)); exact BK285.out) Tryz.underlying26 rfl (by kernel_rfl)) rfl ?_
    exact ⟨by first | rfl | (simp only [i64_w,i32_w] <;> rfl) | (simp [errW_none,errW_some] <;> rfl) | (simp [*,errW_none,errW_some] <;> rfl),bA⟩

/-! ### spec_l04Count: function 23 -/
def spec_l04Count.l0 : Nat → List (S75) → Int → Int → Option (Int)
 | 0,_,_,_ => none
 | k + 1,x0,x3,x4 => if x4 < (x0.length : Int) then (if 0 ≤ x4 then (spec_l04Count.l0 k x0 (wrap64 (x3 + ((rd_T75 x0 x4).f1.f0))) (wrap64 (x4 + 1))) else (none)) else (some x3)
def spec_l04Count.f (k : Nat) (l0 : List (S75)) : Option (Int) := spec_l04Count.l0 k l0 0 0
theorem spec_l04Count.mono_l : ∀ k,(∀ y0 y1 y2,LeO (spec_l04Count.l0 k y0 y1 y2) (spec_l04Count.l0 (k + 1) y0 y1 y2))
 | 0 => fun _ _ _ r h => by simp [spec_l04Count.l0] at h
 | k + 1 => by
  have ih0 := spec_l04Count.mono_l k
  ·intro y0 y1 y2
   unfold spec_l04Count.l0
   repeat' first
   | (with_reducible exact ih0 _ _ _)
   | (with_reducible exact LeO.refl _)
   | (with_reducible exact LeO.none _)
   | (with_reducible refine LeO.ite ?_ ?_)
   | (with_reducible refine LeO.bind ?_ (fun _ => ?_))
   | exact ih0 _ _ _
   | exact LeO.none _
   | refine LeO.ite ?_ ?_
   | refine LeO.bind ?_ (fun _ => ?_)
theorem spec_l04Count.mono : ∀ a0 k,LeO (spec_l04Count.f k a0) (spec_l04Count.f (k + 1) a0) := by
 intro a0 k
 have ih0 := spec_l04Count.mono_l k
 unfold spec_l04Count.f
 repeat' first
   | (with_reducible exact ih0 _ _ _)
   | (with_reducible exact LeO.refl _)
   | (with_reducible exact LeO.none _)
   | (with_reducible refine LeO.ite ?_ ?_)
   | (with_reducible refine LeO.bind ?_ (fun _ => ?_))
   | exact ih0 _ _ _
   | exact LeO.none _
   | refine LeO.ite ?_ ?_
   | refine LeO.bind ?_ (fun _ => ?_)
set_option maxHeartbeats 8000000 in
set_option maxRecDepth 100000 in
theorem spec_l04Count.calls (k : Nat) (A0 : Option Addr) (c0 : Nat) (l0 : List (S75)) (r : Int) (w : World) (hr0 : Kd.C k75 w A0 l0.length l0) (hc0 : l0.length ≤ c0) (h : spec_l04Count.f k l0 = some r) :
  Calls Tryz.prog 23 #[.slice A0 l0.length c0] w fun e w' => e = .returned (.int .i64 r) ∧ Drawn0 w w' := by
 have HR0 := Aside0.mk hr0
 have HC0 := Aside0.mk hc0
 clear hr0 hc0
 have H : (spec_l04Count.l0 k l0 0 0) = some r := h
 clear h
 have H' := Aside0.mk H
 clear H
 go_enter Tryz.func23,Tryz.ntmps23
 go_wp2
 go_loopg [3,4] k (fun kq v3 v4 w' => ∃ (x3_1 : Int) (x4_1 : Int),v3 = .int .i64 x3_1 ∧ v4 = .int .i64 x4_1 ∧ Aside0 (spec_l04Count.l0 kq l0 x3_1 x4_1 = some r) ∧ Aside0 (kq ≤ k) ∧ Drawn0 w w')
 case atStart => exact ⟨(0),(0),(by first | rfl | (simp; done) | (simp [*]; done)),(by first | rfl | (simp; done) | (simp [*]; done)),H',⟨Nat.le_refl _⟩,by repeat (first | exact Drawn0.refl _ | apply Drawn0.step)⟩
 case round =>
  clear H'
  obtain ⟨x3_1,x4_1,rfl,rfl,HA,HK1,⟨m1,rfl⟩⟩ := hrel
  cases gk with
  | zero => exact absurd HA.out (by simp [spec_l04Count.l0])
  | succ k1 =>
   have H := HA.out
   clear HA
   simp only [spec_l04Count.l0] at H
   by_cases c2 : x4_1 < (l0.length : Int)
   ·rw [if_pos c2] at H
    have c2b0 : decide (x4_1 < (l0.length : Int)) = true := decide_eq_true c2
    clear c2
    by_cases c3 : 0 ≤ x4_1
    ·rw [if_pos c3] at H
     have c3b0 : decide (0 ≤ x4_1) = true := decide_eq_true c3
     clear c3
     have H' := Aside0.mk H
     clear H
     have p296 : 0 ≤ (x4_1 : Int) := od
     have q296 : x4_1 < (l0.length : Int) := od
     obtain ⟨ad296,e296,hx296_0,hx296_1,hx296_2,hx296_3,hx296_4,hx296_5,hx296_6⟩ := at_T75 HR0.out x4_1 p296 q296
     cases e296
     replace p296 := eq_true p296
     replace q296 := eq_true q296
     go_wp2
     go_roundg k1
     case measure => have := HK1.out; omega
     case rel => exact ⟨(wrap64 (x3_1 + ((rd_T75 l0 x4_1).f1.f0))),(wrap64 (x4_1 + 1)),(by first | rfl | (simp; done) | (simp [*]; done)),(by first | rfl | (simp; done) | (simp [*]; done)),H',⟨by have := HK1.out; omega⟩,by repeat (first | exact Drawn0.refl _ | apply Drawn0.step)⟩
    ·rw [if_neg c3] at H
     exact absurd H (by simp)
   ·rw [if_neg c2] at H
    have c2b0 : decide (x4_1 < (l0.length : Int)) = false := decide_eq_false c2
    clear c2
    obtain rfl := Option.some.inj H
    go_wp2
    go_ret
    exact ⟨by first | rfl | (simp; done) | (simp [*]; done),by repeat (first | exact Drawn0.refl _ | apply Drawn0.step)⟩

end Go.Proofs.YtleifhnoaaphmaaGreatDoor.XFnExactWindowOf
