-- Printed by this session's own program wip/tools/xprint.py, which widens the kit's print. Not trusted: Lean checks it.
import Derived.Test.YtleifhnoaaphmaaGreatDoorXFnExactWindowOfx0
import Derived.Test.YtleifhnoaaphmaaGreatDoorXFnExactWindowOfx11
namespace Go.Proofs.YtleifhnoaaphmaaGreatDoor.XFnExactWindowOf
open List (setIfInBounds_toArray set_cons_zero set_cons_succ)
open Go.RowKit Go.Proofs.YtleifhnoaaphmaaGreatDoorW.PrintWords Go.Proofs.YtleifhnoaaphmaaGreatDoorW.PrintLast Go.Proofs.YtleifhnoaaphmaaGreatDoorW.PrintMore
attribute [local go_sem] max2_int min2_int max_two min_two max_three min_three max_four min_four   -- for this text's walks alone
set_option linter.unusedVariables false
set_option linter.unusedSimpArgs false

/-! ### impl_readDataKey: function 26 -/
mutual
def impl_readDataKey.l0 : Nat → ByteArray → List ByteArray → Int → Int → Option (Int × Int × Int × Bool)
 | 0,_,_,_,_ => none
 | k + 1,x0,x14,x15,x16 => if x16 < x15 then (if 0 ≤ x16 then (if x16 < (x14.length : Int) then ((strings_CutPrefix.f x0 (rdOf ByteArray.empty x14 x16)).bind fun bt355 => (if bt355.2 = true then (if (bt355.1.size : Int) = 13 then (if 6 < (bt355.1.size : Int) then (impl_readDataKey.j1 k x0 x16 bt355.1 x14 x15 x16 ((bt bt355.1 6) == 45)) else (none)) else (impl_readDataKey.j1 k x0 x16 bt355.1 x14 x15 x16 false)) else (impl_readDataKey.j1 k x0 x16 bt355.1 x14 x15 x16 false))) else (none)) else (none)) else (some (0,0,0,false))
def impl_readDataKey.j1 : Nat → ByteArray → Int → ByteArray → List ByteArray → Int → Int → Bool → Option (Int × Int × Int × Bool)
 | 0,_,_,_,_,_,_,_ => none
 | k + 1,x0,x6,x8,x14,x15,x16,x37 => if x37 = true then (if 0 ≤ 6 then (if 6 ≤ (x8.size : Int) then ((impl_readSix.f (x8.extract 0 6)).bind fun bt357 => (if 7 ≤ (x8.size : Int) then ((impl_readSix.f (x8.extract 7 x8.size)).bind fun bt359 => (if bt357.2 = true then (if bt359.2 = true then (some (x6,bt357.1,bt359.1,true)) else (impl_readDataKey.l0 k x0 x14 x15 (wrap64 (x16 + 1)))) else (impl_readDataKey.l0 k x0 x14 x15 (wrap64 (x16 + 1))))) else (none))) else (none)) else (none)) else (impl_readDataKey.l0 k x0 x14 x15 (wrap64 (x16 + 1)))
end
def impl_readDataKey.f (k : Nat) (a0 : ByteArray) : Option (Int × Int × Int × Bool) := (impl_dataPrefixes.f).bind fun t351 => (impl_readDataKey.l0 k a0 t351 (t351.length : Int) 0)
theorem impl_readDataKey.mono_l : ∀ k,(∀ y0 y1 y2 y3,LeO (impl_readDataKey.l0 k y0 y1 y2 y3) (impl_readDataKey.l0 (k + 1) y0 y1 y2 y3)) ∧ (∀ y0 y1 y2 y3 y4 y5 y6,LeO (impl_readDataKey.j1 k y0 y1 y2 y3 y4 y5 y6) (impl_readDataKey.j1 (k + 1) y0 y1 y2 y3 y4 y5 y6))
 | 0 => ⟨fun _ _ _ _ r h => by simp [impl_readDataKey.l0] at h,fun _ _ _ _ _ _ _ r h => by simp [impl_readDataKey.j1] at h⟩
 | k + 1 => by
  obtain ⟨ih0,ih1⟩ := impl_readDataKey.mono_l k
  refine ⟨?_,?_⟩
  ·intro y0 y1 y2 y3
   unfold impl_readDataKey.l0
   repeat' first
   | (with_reducible exact ih0 _ _ _ _)
   | (with_reducible exact ih1 _ _ _ _ _ _ _)
   | (with_reducible exact LeO.refl _)
   | (with_reducible exact LeO.none _)
   | (with_reducible refine LeO.ite ?_ ?_)
   | (with_reducible refine LeO.bind ?_ (fun _ => ?_))
   | exact ih0 _ _ _ _
   | exact ih1 _ _ _ _ _ _ _
   | exact LeO.none _
   | refine LeO.ite ?_ ?_
   | refine LeO.bind ?_ (fun _ => ?_)
  ·intro y0 y1 y2 y3 y4 y5 y6
   unfold impl_readDataKey.j1
   repeat' first
   | (with_reducible exact ih0 _ _ _ _)
   | (with_reducible exact ih1 _ _ _ _ _ _ _)
   | (with_reducible exact LeO.refl _)
   | (with_reducible exact LeO.none _)
   | (with_reducible refine LeO.ite ?_ ?_)
   | (with_reducible refine LeO.bind ?_ (fun _ => ?_))
   | exact ih0 _ _ _ _
   | exact ih1 _ _ _ _ _ _ _
   | exact LeO.none _
   | refine LeO.ite ?_ ?_
   | refine LeO.bind ?_ (fun _ => ?_)
theorem impl_readDataKey.mono : ∀ a0 k,LeO (impl_readDataKey.f k a0) (impl_readDataKey.f (k + 1) a0) := by
 intro a0 k
 obtain ⟨ih0,ih1⟩ := impl_readDataKey.mono_l k
 unfold impl_readDataKey.f
 repeat' first
   | (with_reducible exact ih0 _ _ _ _)
   | (with_reducible exact ih1 _ _ _ _ _ _ _)
   | (with_reducible exact LeO.refl _)
   | (with_reducible exact LeO.none _)
   | (with_reducible refine LeO.ite ?_ ?_)
   | (with_reducible refine LeO.bind ?_ (fun _ => ?_))
   | exact ih0 _ _ _ _
   | exact ih1 _ _ _ _ _ _ _
   | exact LeO.none _
   | refine LeO.ite ?_ ?_
   | refine LeO.bind ?_ (fun _ => ?_)
set_option maxHeartbeats 8000000 in
set_option maxRecDepth 100000 in
theorem impl_readDataKey.calls (k : Nat) (a0 : ByteArray) (r1 : Int) (r2 : Int) (r3 : Int) (r4 : Bool) (w : World) (hV : Vars w) (h : impl_readDataKey.f k a0 = some (r1,r2,r3,r4)) :
  Calls Tryz.prog 26 #[.string a0] w fun e w' => e = .returned (.tuple #[.int .i64 r1,.int .i64 r2,.int .i64 r3,.bool r4]) ∧ Below w.heap.size w w' := by
 have HV := Aside0.mk hV
 clear hV
 have HB := Aside0.mk (Below.refl w.heap.size w)
 have H : ((impl_dataPrefixes.f).bind fun t351 => (impl_readDataKey.l0 k a0 t351 (t351.length : Int) 0)) = some (r1,r2,r3,r4) := h
 clear h
 replace H := Option.bind_eq_some_iff.mp H
 obtain ⟨t351,A20,H⟩ := H
 try dsimp only at H
 have A2 := Aside0.mk A20
 clear A20
 have H' := Aside0.mk H
 clear H
 go_enter Tryz.func26,Tryz.ntmps26
 go_wp2_with (first | ((with_reducible refine gate_callee (f:=45) rfl ?_); refine goesL_ (some 14) rfl rfl Tryz.func45 (by kernel_rfl) rfl #[] rfl mA ?_; (with_reducible refine (impl_dataPrefixes.calls  t351 _ A2.out).mono ?_); rintro e w3 ⟨v352,rfl,ho0,hb⟩; refine ⟨_,rfl,?_⟩; have n0_ := Aside0.mk (Kd.R_lower ho0 (below_size bA)); have n1_ := Aside0.mk (below_step bA hb); clear HB; have HO353 := n0_; have HB := n1_; clear n0_ n1_; (try clear hb); (try clear hb2); (try clear hk); (try clear hi); (try clear ho0); obtain ⟨Ao4,co4,eo4⟩ := Kd.R_slice HO353.out; subst eo4))
 go_loopg [16] k (fun kq v16 w' => ∃ (x16_1 : Int),v16 = .int .i64 x16_1 ∧ Aside0 (impl_readDataKey.l0 kq a0 t351 (t351.length : Int) x16_1 = some (r1,r2,r3,r4)) ∧ Aside0 (kq ≤ k) ∧ Aside0 (Kd.R Kd.string 9 w' w.heap.size (fun _ => True) (.slice Ao4 t351.length co4) t351) ∧ Aside0 (Below w.heap.size w w'))
 case atStart => exact ⟨(0),(by first | rfl | (simp; done) | (simp [*]; done)),H',⟨Nat.le_refl _⟩,⟨rA HO353.out⟩,⟨bA⟩⟩
 case round =>
  clear H'
  try clear c2
  try clear p2
  try clear c4
  obtain ⟨x16_1,rfl,HA,HK1,HO_14,HB⟩ := hrel
  cases gk with
  | zero => exact absurd HA.out (by simp [impl_readDataKey.l0])
  | succ k1 =>
   have H := HA.out
   clear HA
   simp only [impl_readDataKey.l0] at H
   by_cases c5 : x16_1 < (t351.length : Int)
   ·rw [if_pos c5] at H
    have c5b0 : decide (x16_1 < (t351.length : Int)) = true := decide_eq_true c5
    clear c5
    by_cases c6 : 0 ≤ x16_1
    ·rw [if_pos c6] at H
     have c6b0 : decide (0 ≤ x16_1) = true := decide_eq_true c6
     clear c6
     by_cases c7 : x16_1 < (t351.length : Int)
     ·rw [if_pos c7] at H
      have c7b0 : decide (x16_1 < (t351.length : Int)) = true := decide_eq_true c7
      clear c7
      replace H := Option.bind_eq_some_iff.mp H
      obtain ⟨⟨t355,t356⟩,A80,H⟩ := H
      try dsimp only at H
      have A8 := Aside0.mk A80
      clear A80
      have HC9 := Aside0.mk H
      clear H
      have p354 : 0 ≤ (x16_1 : Int) := od
      have q354 : x16_1 < (t351.length : Int) := od
      obtain ⟨ad354,e354,hx354_0⟩ := Kd.at_string (Kd.R_reads' HO_14.out).2.2 x16_1 p354 q354
      cases e354
      replace p354 := eq_true p354
      replace q354 := eq_true q354
      go_upto_region 5 with (first | ((with_reducible refine gate_callee (f:=46) rfl ?_); refine goesL_ (some 24) rfl rfl Tryz.func46 (by kernel_rfl) rfl #[.string a0,.string (rdOf ByteArray.empty t351 x16_1)] rfl mA ?_; (with_reducible refine (strings_CutPrefix.calls a0 (rdOf ByteArray.empty t351 x16_1) t355 t356 _ A8.out).mono ?_); rintro e w10 ⟨rfl,hb⟩; refine ⟨_,rfl,?_⟩; have n0_ := Aside0.mk (Kd.R_below (rA HO_14.out) hb); have n1_ := Aside0.mk (below_step bA hb); clear HO_14; clear HB; have HO_14 := n0_; have HB := n1_; clear n0_ n1_; (try clear hb); (try clear hb2); (try clear hk); (try clear hi)))
      (try simp only [Act.put,setIfInBounds_toArray,set_cons_zero,set_cons_succ])
      go_cut [37] (fun v37 wc => ∃ (kq : Nat) (x37_8 : Bool),v37 = .bool x37_8 ∧ Aside0 (impl_readDataKey.j1 kq a0 x16_1 t355 t351 (t351.length : Int) x16_1 x37_8 = some (r1,r2,r3,r4)) ∧ Aside0 (kq ≤ k1) ∧ Aside0 (Kd.R Kd.string 9 wc w.heap.size (fun _ => True) (.slice (some ad354) t351.length co4) t351) ∧ Aside0 (Below w.heap.size w wc))
      case first =>
       have H := HC9.out
       clear HC9
       by_cases c11 : t356 = true
       ·subst c11
        rw [if_pos rfl] at H
        by_cases c12 : (t355.size : Int) = 13
        ·rw [if_pos c12] at H
         have c12b0 : ((t355.size : Int) == 13) = true := beq_iff_eq.mpr c12
         have c12b1 : ((t355.size : Int) != 13) = false := bne_eq_false_iff_eq.mpr c12
         clear c12
         (first | rw [c12b0] | (simp only [i64_w,i32_w]; rw [c12b0]) | skip)
         by_cases c13 : 6 < (t355.size : Int)
         ·rw [if_pos c13] at H
          have c13b0 : decide (6 < (t355.size : Int)) = true := decide_eq_true c13
          have c13b1 : decide (6 < t355.size) = true := decide_eq_true (by omega)
          clear c13
          have H' := Aside0.mk H
          clear H
          have p14 : 0 ≤ (6 : Int) := (by omega)
          have q14 : 6 < t355.size := (by have : (6 : Int) < (t355.size : Int) := od; omega)
          have hx14 : ∀ h : 6 < t355.size,((t355[6]'h).toNat : Int) = bt t355 6 := bt_at t355 6
          clear p14
          have qi14 : (6 < (t355.size : Int)) = True := eq_true (od)
          replace q14 := eq_true q14
          go_wp2
          go_meet
          case rel => exact ⟨_,(((bt t355 6) == 45)),(by first | rfl | (simp; done) | (simp [*]; done)),H',⟨by have := HK1.out; first | omega | exact Nat.le_refl _⟩,⟨rA HO_14.out⟩,⟨bA⟩⟩
         ·rw [if_neg c13] at H
          exact absurd H (by simp)
        ·rw [if_neg c12] at H
         have c12b0 : ((t355.size : Int) == 13) = false := beq_eq_false_iff_ne.mpr c12
         have c12b1 : ((t355.size : Int) != 13) = true := bne_iff_ne.mpr c12
         (first | rw [c12b0] | (simp only [i64_w,i32_w]; rw [c12b0]) | skip)
         have H' := Aside0.mk H
         clear H
         go_wp2
         go_meet
         case rel => exact ⟨_,(false),(by first | rfl | (simp; done) | (simp [*]; done)),H',⟨by have := HK1.out; first | omega | exact Nat.le_refl _⟩,⟨rA HO_14.out⟩,⟨bA⟩⟩
       ·replace c11 := Bool.eq_false_iff.mpr c11
        subst c11
        rw [if_neg (show ¬ (false = true) by decide)] at H
        have H' := Aside0.mk H
        clear H
        go_wp2
        go_meet
        case rel => exact ⟨_,(false),(by first | rfl | (simp; done) | (simp [*]; done)),H',⟨by have := HK1.out; first | omega | exact Nat.le_refl _⟩,⟨rA HO_14.out⟩,⟨bA⟩⟩
      case rest =>
       clear HC9
       try clear c1
       try clear p1
       try clear q1
       try clear hx1
       try clear qi1
       try clear c2
       try clear p2
       try clear p3
       try clear q3
       try clear hx3
       try clear c4
       try clear c5
       try clear c5b0
       try clear c6
       try clear c6b0
       try clear c7
       try clear c7b0
       try clear c11
       try clear c12
       try clear c12b0
       try clear c12b1
       try clear c13
       try clear c13b0
       try clear c13b1
       try clear p14
       try clear q14
       try clear hx14
       try clear qi14
       try clear hx354_0
       try clear p14
       try clear p2
       try clear p354
       try clear q14
       try clear q354
       obtain ⟨kq,x37_8,rfl,HA,HJ8,HO_14,HB⟩ := hcut
       cases kq with
       | zero => exact absurd HA.out (by simp [impl_readDataKey.j1])
       | succ kj8 =>
        have H := HA.out
        clear HA
        simp only [impl_readDataKey.j1] at H
        by_cases c15 : x37_8 = true
        ·subst c15
         rw [if_pos rfl] at H
         by_cases c16 : 0 ≤ 6
         ·rw [if_pos c16] at H
          have c16b0 := eq_true c16
          have c16b1 : decide (0 ≤ 6) = true := decide_eq_true c16
          clear c16
          by_cases c17 : 6 ≤ (t355.size : Int)
          ·rw [if_pos c17] at H
           have c17b0 := eq_true c17
           have c17b1 : decide (6 ≤ (t355.size : Int)) = true := decide_eq_true c17
           clear c17
           replace H := Option.bind_eq_some_iff.mp H
           obtain ⟨⟨t357,t358⟩,A180,H⟩ := H
           try dsimp only at H
           have A18 := Aside0.mk A180
           clear A180
           by_cases c19 : 7 ≤ (t355.size : Int)
           ·rw [if_pos c19] at H
            have c19b0 := eq_true c19
            have c19b1 : decide (7 ≤ (t355.size : Int)) = true := decide_eq_true c19
            clear c19
            replace H := Option.bind_eq_some_iff.mp H
            obtain ⟨⟨t359,t360⟩,A200,H⟩ := H
            try dsimp only at H
            have A20 := Aside0.mk A200
            clear A200
            by_cases c21 : t358 = true
            ·subst c21
             rw [if_pos rfl] at H
             by_cases c22 : t360 = true
             ·subst c22
              rw [if_pos rfl] at H
              simp only [Option.some.injEq,Prod.mk.injEq] at H
              obtain ⟨rfl,rfl,rfl,rfl⟩ := H
              go_wp2_with (first | ((with_reducible refine gate_callee (f:=47) rfl ?_); refine goesL_ (some 41) rfl rfl Tryz.func47 (by kernel_rfl) rfl #[.string (t355.extract 0 6)] rfl mA ?_; (with_reducible refine (impl_readSix.calls (t355.extract 0 6) t357 true _ ?side1 A18.out).mono ?_); (case side1 => exact HV.out.below bA); rintro e w23 ⟨rfl,hb⟩; refine ⟨_,rfl,?_⟩; have n0_ := Aside0.mk (Kd.R_below (rA HO_14.out) hb); have n1_ := Aside0.mk (below_step bA hb); clear HO_14; clear HB; have HO_14 := n0_; have HB := n1_; clear n0_ n1_; (try clear hb); (try clear hb2); (try clear hk); (try clear hi)) | ((with_reducible refine gate_callee (f:=47) rfl ?_); refine goesL_ (some 47) rfl rfl Tryz.func47 (by kernel_rfl) rfl #[.string (t355.extract 7 t355.size)] rfl mA ?_; (with_reducible refine (impl_readSix.calls (t355.extract 7 t355.size) t359 true _ ?side1 A20.out).mono ?_); (case side1 => exact HV.out.below bA); rintro e w24 ⟨rfl,hb⟩; refine ⟨_,rfl,?_⟩; have n0_ := Aside0.mk (Kd.R_below (rA HO_14.out) hb); have n1_ := Aside0.mk (below_step bA hb); clear HO_14; clear HB; have HO_14 := n0_; have HB := n1_; clear n0_ n1_; (try clear hb); (try clear hb2); (try clear hk); (try clear hi)))
              refine bodyPost_ret (results_list (rs := [.tmp 2,.tmp 3,.tmp 4,.tmp 5]) rfl (by simp) (.tmp (.tmp (.tmp (.tmp .nil))))) rfl ?_
              exact ⟨by first | rfl | (simp only [i64_w,i32_w] <;> rfl) | (simp [errW_none,errW_some] <;> rfl) | (simp [*,errW_none,errW_some] <;> rfl),bA⟩
             ·replace c22 := Bool.eq_false_iff.mpr c22
              subst c22
              rw [if_neg (show ¬ (false = true) by decide)] at H
              have H' := Aside0.mk H
              clear H
              go_wp2_with (first | ((with_reducible refine gate_callee (f:=47) rfl ?_); refine goesL_ (some 41) rfl rfl Tryz.func47 (by kernel_rfl) rfl #[.string (t355.extract 0 6)] rfl mA ?_; (with_reducible refine (impl_readSix.calls (t355.extract 0 6) t357 true _ ?side1 A18.out).mono ?_); (case side1 => exact HV.out.below bA); rintro e w25 ⟨rfl,hb⟩; refine ⟨_,rfl,?_⟩; have n0_ := Aside0.mk (Kd.R_below (rA HO_14.out) hb); have n1_ := Aside0.mk (below_step bA hb); clear HO_14; clear HB; have HO_14 := n0_; have HB := n1_; clear n0_ n1_; (try clear hb); (try clear hb2); (try clear hk); (try clear hi)) | ((with_reducible refine gate_callee (f:=47) rfl ?_); refine goesL_ (some 47) rfl rfl Tryz.func47 (by kernel_rfl) rfl #[.string (t355.extract 7 t355.size)] rfl mA ?_; (with_reducible refine (impl_readSix.calls (t355.extract 7 t355.size) t359 false _ ?side1 A20.out).mono ?_); (case side1 => exact HV.out.below bA); rintro e w26 ⟨rfl,hb⟩; refine ⟨_,rfl,?_⟩; have n0_ := Aside0.mk (Kd.R_below (rA HO_14.out) hb); have n1_ := Aside0.mk (below_step bA hb); clear HO_14; clear HB; have HO_14 := n0_; have HB := n1_; clear n0_ n1_; (try clear hb); (try clear hb2); (try clear hk); (try clear hi)))
              go_roundg kj8
              case measure => have := HK1.out; have := HJ8.out; omega
              case rel => exact ⟨(wrap64 (x16_1 + 1)),(by first | rfl | (simp; done) | (simp [*]; done)),H',⟨by have := HK1.out; have := HJ8.out; omega⟩,⟨rA HO_14.out⟩,⟨bA⟩⟩
            ·replace c21 := Bool.eq_false_iff.mpr c21
             subst c21
             rw [if_neg (show ¬ (false = true) by decide)] at H
             have H' := Aside0.mk H
             clear H
             go_wp2_with (first | ((with_reducible refine gate_callee (f:=47) rfl ?_); refine goesL_ (some 41) rfl rfl Tryz.func47 (by kernel_rfl) rfl #[.string (t355.extract 0 6)] rfl mA ?_; (with_reducible refine (impl_readSix.calls (t355.extract 0 6) t357 false _ ?side1 A18.out).mono ?_); (case side1 => exact HV.out.below bA); rintro e w27 ⟨rfl,hb⟩; refine ⟨_,rfl,?_⟩; have n0_ := Aside0.mk (Kd.R_below (rA HO_14.out) hb); have n1_ := Aside0.mk (below_step bA hb); clear HO_14; clear HB; have HO_14 := n0_; have HB := n1_; clear n0_ n1_; (try clear hb); (try clear hb2); (try clear hk); (try clear hi)) | ((with_reducible refine gate_callee (f:=47) rfl ?_); refine goesL_ (some 47) rfl rfl Tryz.func47 (by kernel_rfl) rfl #[.string (t355.extract 7 t355.size)] rfl mA ?_; (with_reducible refine (impl_readSix.calls (t355.extract 7 t355.size) t359 t360 _ ?side1 A20.out).mono ?_); (case side1 => exact HV.out.below bA); rintro e w28 ⟨rfl,hb⟩; refine ⟨_,rfl,?_⟩; have n0_ := Aside0.mk (Kd.R_below (rA HO_14.out) hb); have n1_ := Aside0.mk (below_step bA hb); clear HO_14; clear HB; have HO_14 := n0_; have HB := n1_; clear n0_ n1_; (try clear hb); (try clear hb2); (try clear hk); (try clear hi)))
             go_roundg kj8
             case measure => have := HK1.out; have := HJ8.out; omega
             case rel => exact ⟨(wrap64 (x16_1 + 1)),(by first | rfl | (simp; done) | (simp [*]; done)),H',⟨by have := HK1.out; have := HJ8.out; omega⟩,⟨rA HO_14.out⟩,⟨bA⟩⟩
           ·rw [if_neg c19] at H
            exact absurd H (by simp)
          ·rw [if_neg c17] at H
           exact absurd H (by simp)
         ·rw [if_neg c16] at H
          exact absurd H (by simp)
        ·replace c15 := Bool.eq_false_iff.mpr c15
         subst c15
         rw [if_neg (show ¬ (false = true) by decide)] at H
         have H' := Aside0.mk H
         clear H
         go_wp2
         go_roundg kj8
         case measure => have := HK1.out; have := HJ8.out; omega
         case rel => exact ⟨(wrap64 (x16_1 + 1)),(by first | rfl | (simp; done) | (simp [*]; done)),H',⟨by have := HK1.out; have := HJ8.out; omega⟩,⟨rA HO_14.out⟩,⟨bA⟩⟩
     ·rw [if_neg c7] at H
      exact absurd H (by simp)
    ·rw [if_neg c6] at H
     exact absurd H (by simp)
   ·rw [if_neg c5] at H
    have c5b0 : decide (x16_1 < (t351.length : Int)) = false := decide_eq_false c5
    clear c5
    simp only [Option.some.injEq,Prod.mk.injEq] at H
    obtain ⟨rfl,rfl,rfl,rfl⟩ := H
    go_wp2
    refine bodyPost_ret (results_list (rs := [.tmp 2,.tmp 3,.tmp 4,.tmp 5]) rfl (by simp) (.tmp (.tmp (.tmp (.tmp .nil))))) rfl ?_
    exact ⟨by first | rfl | (simp only [i64_w,i32_w] <;> rfl) | (simp [errW_none,errW_some] <;> rfl) | (simp [*,errW_none,errW_some] <;> rfl),bA⟩

/-! ### impl_entryOK: function 14 -/
def impl_entryOK.f (k : Nat) (a0_0 : Int) (a0_1 : Int) (a0_2 : Int) (a0_3 : ByteArray) : Option (Bool) := (impl_readDataKey.f k a0_3).bind fun bt362 => (if bt362.2.2.2 = true then (if bt362.1 = a0_0 then ((impl_isRange.f a0_1 a0_2).bind fun t366 => (if t366 = true then (some (decide (a0_1 < a0_2))) else (some false))) else (some false)) else (some false))
theorem impl_entryOK.mono : ∀ a0 a1 a2 a3 k,LeO (impl_entryOK.f k a0 a1 a2 a3) (impl_entryOK.f (k + 1) a0 a1 a2 a3) := by
 intro a0 a1 a2 a3 k
 unfold impl_entryOK.f
 repeat' first
   | (with_reducible exact impl_readDataKey.mono _ _)
   | (with_reducible exact LeO.refl _)
   | (with_reducible exact LeO.none _)
   | (with_reducible refine LeO.ite ?_ ?_)
   | (with_reducible refine LeO.bind ?_ (fun _ => ?_))
   | exact impl_readDataKey.mono _ _
   | exact LeO.none _
   | refine LeO.ite ?_ ?_
   | refine LeO.bind ?_ (fun _ => ?_)
set_option maxHeartbeats 8000000 in
set_option maxRecDepth 100000 in
theorem impl_entryOK.calls (k : Nat) (a0_0 : Int) (a0_1 : Int) (a0_2 : Int) (a0_3 : ByteArray) (r : Bool) (w : World) (hV : Vars w) (h : impl_entryOK.f k a0_0 a0_1 a0_2 a0_3 = some r) :
  Calls Tryz.prog 14 #[.agg #[.int .i64 a0_0,.int .i64 a0_1,.int .i64 a0_2,.string a0_3]] w fun e w' => e = .returned (.bool r) ∧ Below w.heap.size w w' := by
 have hu29 := Tryz.underlying29
 have HV := Aside0.mk hV
 clear hV
 have HB := Aside0.mk (Below.refl w.heap.size w)
 have H : ((impl_readDataKey.f k a0_3).bind fun bt362 => (if bt362.2.2.2 = true then (if bt362.1 = a0_0 then ((impl_isRange.f a0_1 a0_2).bind fun t366 => (if t366 = true then (some (decide (a0_1 < a0_2))) else (some false))) else (some false)) else (some false))) = some r := h
 clear h
 replace H := Option.bind_eq_some_iff.mp H
 obtain ⟨⟨t362,t363,t364,t365⟩,A20,H⟩ := H
 try dsimp only at H
 have A2 := Aside0.mk A20
 clear A20
 by_cases c3 : t365 = true
 ·subst c3
  rw [if_pos rfl] at H
  by_cases c4 : t362 = a0_0
  ·rw [if_pos c4] at H
   have c4b0 : (t362 == a0_0) = true := beq_iff_eq.mpr c4
   have c4b1 : (t362 != a0_0) = false := bne_eq_false_iff_eq.mpr c4
   clear c4
   replace H := Option.bind_eq_some_iff.mp H
   obtain ⟨t366,A50,H⟩ := H
   try dsimp only at H
   have A5 := Aside0.mk A50
   clear A50
   by_cases c6 : t366 = true
   ·subst c6
    rw [if_pos rfl] at H
    obtain rfl := Option.some.inj H
    go_enter Tryz.func14,Tryz.ntmps14
    go_wp2_with (first | ((with_reducible refine gate_dst (N:=1) rfl ?_); refine box_event ?hg (N:=1) ?hd (cs := #[.int .i64 a0_0,.int .i64 a0_1,.int .i64 a0_2,.string a0_3]) (t:=29) ?hr ?_; (case hd => rfl); (case hg => rfl); (case hr => first | (go_simp; done) | (go_simp; rfl)); intro gb361 hg w7 hbox hb; have n0_ := Aside0.mk (below_step bA hb); have n1_ := Aside0.mk (hbox); have n2_ := Aside0.mk ((gw hg : w.heap.size ≤ gb361)); have n3_ := Aside0.mk ((gw hg : w.heap.size ≤ gb361)); clear HB; have HB := n0_; have BK361 := n1_; have GW361 := n2_; have GE361 := n3_; clear n0_ n1_ n2_ n3_; clear hb hbox hg; have hcz8_0 : w7.cell? ⟨gb361,0,none⟩ = some (.int .i64 a0_0) := (blk_cell BK361.out 0).trans rfl; have hcz8_1 : w7.cell? ⟨gb361,1,none⟩ = some (.int .i64 a0_1) := (blk_cell BK361.out 1).trans rfl; have hcz8_2 : w7.cell? ⟨gb361,2,none⟩ = some (.int .i64 a0_2) := (blk_cell BK361.out 2).trans rfl; have hcz8_3 : w7.cell? ⟨gb361,3,none⟩ = some (.string a0_3) := (blk_cell BK361.out 3).trans rfl; have hfz8_0 := blk_frozen BK361.out 0; have hfz8_1 := blk_frozen BK361.out 1; have hfz8_2 := blk_frozen BK361.out 2; have hfz8_3 := blk_frozen BK361.out 3) | ((with_reducible refine gate_callee (f:=26) rfl ?_); refine goesL_ (some 10) rfl rfl Tryz.func26 (by kernel_rfl) rfl #[.string a0_3] rfl mA ?_; (with_reducible refine (impl_readDataKey.calls k a0_3 t362 t363 t364 true _ ?side1 A2.out).mono ?_); (case side1 => exact HV.out.below bA); rintro e w9 ⟨rfl,hb⟩; refine ⟨_,rfl,?_⟩; have n0_ := Aside0.mk (blk_below (g:=gb361) (o:=.cells #[.int .i64 a0_0,.int .i64 a0_1,.int .i64 a0_2,.string a0_3] 29 (0,0)) (kA BK361.out) hb); have n1_ := Aside0.mk (below_step bA hb); clear BK361; clear HB; have BK361 := n0_; have HB := n1_; clear n0_ n1_; (try clear hb); (try clear hb2); (try clear hk); (try clear hi); have hcz10_0 : w9.cell? ⟨gb361,0,none⟩ = some (.int .i64 a0_0) := (blk_cell BK361.out 0).trans rfl; have hcz10_1 : w9.cell? ⟨gb361,1,none⟩ = some (.int .i64 a0_1) := (blk_cell BK361.out 1).trans rfl; have hcz10_2 : w9.cell? ⟨gb361,2,none⟩ = some (.int .i64 a0_2) := (blk_cell BK361.out 2).trans rfl; have hcz10_3 : w9.cell? ⟨gb361,3,none⟩ = some (.string a0_3) := (blk_cell BK361.out 3).trans rfl; have hfz10_0 := blk_frozen BK361.out 0; have hfz10_1 := blk_frozen BK361.out 1; have hfz10_2 := blk_frozen BK361.out 2; have hfz10_3 := blk_frozen BK361.out 3) | (go_at_call 15; (with_reducible refine (impl_isRange.calls a0_1 a0_2 true _ A5.out).mono ?_); rintro e w' ⟨rfl,⟨nd,rfl⟩⟩))
    go_ret
    exact ⟨by first | rfl | (simp [errW_none,errW_some] <;> rfl) | (simp [*,errW_none,errW_some] <;> rfl),bA⟩
   ·replace c6 := Bool.eq_false_iff.mpr c6
    subst c6
    rw [if_neg (show ¬ (false = true) by decide)] at H
    obtain rfl := Option.some.inj H
    go_enter Tryz.func14,Tryz.ntmps14
    go_wp2_with (first | ((with_reducible refine gate_dst (N:=1) rfl ?_); refine box_event ?hg (N:=1) ?hd (cs := #[.int .i64 a0_0,.int .i64 a0_1,.int .i64 a0_2,.string a0_3]) (t:=29) ?hr ?_; (case hd => rfl); (case hg => rfl); (case hr => first | (go_simp; done) | (go_simp; rfl)); intro gb361 hg w11 hbox hb; have n0_ := Aside0.mk (below_step bA hb); have n1_ := Aside0.mk (hbox); have n2_ := Aside0.mk ((gw hg : w.heap.size ≤ gb361)); have n3_ := Aside0.mk ((gw hg : w.heap.size ≤ gb361)); clear HB; have HB := n0_; have BK361 := n1_; have GW361 := n2_; have GE361 := n3_; clear n0_ n1_ n2_ n3_; clear hb hbox hg; have hcz12_0 : w11.cell? ⟨gb361,0,none⟩ = some (.int .i64 a0_0) := (blk_cell BK361.out 0).trans rfl; have hcz12_1 : w11.cell? ⟨gb361,1,none⟩ = some (.int .i64 a0_1) := (blk_cell BK361.out 1).trans rfl; have hcz12_2 : w11.cell? ⟨gb361,2,none⟩ = some (.int .i64 a0_2) := (blk_cell BK361.out 2).trans rfl; have hcz12_3 : w11.cell? ⟨gb361,3,none⟩ = some (.string a0_3) := (blk_cell BK361.out 3).trans rfl; have hfz12_0 := blk_frozen BK361.out 0; have hfz12_1 := blk_frozen BK361.out 1; have hfz12_2 := blk_frozen BK361.out 2; have hfz12_3 := blk_frozen BK361.out 3) | ((with_reducible refine gate_callee (f:=26) rfl ?_); refine goesL_ (some 10) rfl rfl Tryz.func26 (by kernel_rfl) rfl #[.string a0_3] rfl mA ?_; (with_reducible refine (impl_readDataKey.calls k a0_3 t362 t363 t364 true _ ?side1 A2.out).mono ?_); (case side1 => exact HV.out.below bA); rintro e w13 ⟨rfl,hb⟩; refine ⟨_,rfl,?_⟩; have n0_ := Aside0.mk (blk_below (g:=gb361) (o:=.cells #[.int .i64 a0_0,.int .i64 a0_1,.int .i64 a0_2,.string a0_3] 29 (0,0)) (kA BK361.out) hb); have n1_ := Aside0.mk (below_step bA hb); clear BK361; clear HB; have BK361 := n0_; have HB := n1_; clear n0_ n1_; (try clear hb); (try clear hb2); (try clear hk); (try clear hi); have hcz14_0 : w13.cell? ⟨gb361,0,none⟩ = some (.int .i64 a0_0) := (blk_cell BK361.out 0).trans rfl; have hcz14_1 : w13.cell? ⟨gb361,1,none⟩ = some (.int .i64 a0_1) := (blk_cell BK361.out 1).trans rfl; have hcz14_2 : w13.cell? ⟨gb361,2,none⟩ = some (.int .i64 a0_2) := (blk_cell BK361.out 2).trans rfl; have hcz14_3 : w13.cell? ⟨gb361,3,none⟩ = some (.string a0_3) := (blk_cell BK361.out 3).trans rfl; have hfz14_0 := blk_frozen BK361.out 0; have hfz14_1 := blk_frozen BK361.out 1; have hfz14_2 := blk_frozen BK361.out 2; have hfz14_3 := blk_frozen BK361.out 3) | (go_at_call 15; (with_reducible refine (impl_isRange.calls a0_1 a0_2 false _ A5.out).mono ?_); rintro e w' ⟨rfl,⟨nd,rfl⟩⟩))
    go_ret
    exact ⟨by first | rfl | (simp [errW_none,errW_some] <;> rfl) | (simp [*,errW_none,errW_some] <;> rfl),bA⟩
  ·rw [if_neg c4] at H
   have c4b0 : (t362 == a0_0) = false := beq_eq_false_iff_ne.mpr c4
   have c4b1 : (t362 != a0_0) = true := bne_iff_ne.mpr c4
   obtain rfl := Option.some.inj H
   go_enter Tryz.func14,Tryz.ntmps14
   go_wp2_with (first | ((with_reducible refine gate_dst (N:=1) rfl ?_); refine box_event ?hg (N:=1) ?hd (cs := #[.int .i64 a0_0,.int .i64 a0_1,.int .i64 a0_2,.string a0_3]) (t:=29) ?hr ?_; (case hd => rfl); (case hg => rfl); (case hr => first | (go_simp; done) | (go_simp; rfl)); intro gb361 hg w15 hbox hb; have n0_ := Aside0.mk (below_step bA hb); have n1_ := Aside0.mk (hbox); have n2_ := Aside0.mk ((gw hg : w.heap.size ≤ gb361)); have n3_ := Aside0.mk ((gw hg : w.heap.size ≤ gb361)); clear HB; have HB := n0_; have BK361 := n1_; have GW361 := n2_; have GE361 := n3_; clear n0_ n1_ n2_ n3_; clear hb hbox hg; have hcz16_0 : w15.cell? ⟨gb361,0,none⟩ = some (.int .i64 a0_0) := (blk_cell BK361.out 0).trans rfl; have hcz16_1 : w15.cell? ⟨gb361,1,none⟩ = some (.int .i64 a0_1) := (blk_cell BK361.out 1).trans rfl; have hcz16_2 : w15.cell? ⟨gb361,2,none⟩ = some (.int .i64 a0_2) := (blk_cell BK361.out 2).trans rfl; have hcz16_3 : w15.cell? ⟨gb361,3,none⟩ = some (.string a0_3) := (blk_cell BK361.out 3).trans rfl; have hfz16_0 := blk_frozen BK361.out 0; have hfz16_1 := blk_frozen BK361.out 1; have hfz16_2 := blk_frozen BK361.out 2; have hfz16_3 := blk_frozen BK361.out 3) | ((with_reducible refine gate_callee (f:=26) rfl ?_); refine goesL_ (some 10) rfl rfl Tryz.func26 (by kernel_rfl) rfl #[.string a0_3] rfl mA ?_; (with_reducible refine (impl_readDataKey.calls k a0_3 t362 t363 t364 true _ ?side1 A2.out).mono ?_); (case side1 => exact HV.out.below bA); rintro e w17 ⟨rfl,hb⟩; refine ⟨_,rfl,?_⟩; have n0_ := Aside0.mk (blk_below (g:=gb361) (o:=.cells #[.int .i64 a0_0,.int .i64 a0_1,.int .i64 a0_2,.string a0_3] 29 (0,0)) (kA BK361.out) hb); have n1_ := Aside0.mk (below_step bA hb); clear BK361; clear HB; have BK361 := n0_; have HB := n1_; clear n0_ n1_; (try clear hb); (try clear hb2); (try clear hk); (try clear hi); have hcz18_0 : w17.cell? ⟨gb361,0,none⟩ = some (.int .i64 a0_0) := (blk_cell BK361.out 0).trans rfl; have hcz18_1 : w17.cell? ⟨gb361,1,none⟩ = some (.int .i64 a0_1) := (blk_cell BK361.out 1).trans rfl; have hcz18_2 : w17.cell? ⟨gb361,2,none⟩ = some (.int .i64 a0_2) := (blk_cell BK361.out 2).trans rfl; have hcz18_3 : w17.cell? ⟨gb361,3,none⟩ = some (.string a0_3) := (blk_cell BK361.out 3).trans rfl; have hfz18_0 := blk_frozen BK361.out 0; have hfz18_1 := blk_frozen BK361.out 1; have hfz18_2 := blk_frozen BK361.out 2; have hfz18_3 := blk_frozen BK361.out 3))
   go_ret
   exact ⟨by first | rfl | (simp [errW_none,errW_some] <;> rfl) | (simp [*,errW_none,errW_some] <;> rfl),bA⟩
 ·replace c3 := Bool.eq_false_iff.mpr c3
  subst c3
  rw [if_neg (show ¬ (false = true) by decide)] at H
  obtain rfl := Option.some.inj H
  go_enter Tryz.func14,Tryz.ntmps14
  go_wp2_with (first | ((with_reducible refine gate_dst (N:=1) rfl ?_); refine box_event ?hg (N:=1) ?hd (cs := #[.int .i64 a0_0,.int .i64 a0_1,.int .i64 a0_2,.string a0_3]) (t:=29) ?hr ?_; (case hd => rfl); (case hg => rfl); (case hr => first | (go_simp; done) | (go_simp; rfl)); intro gb361 hg w19 hbox hb; have n0_ := Aside0.mk (below_step bA hb); have n1_ := Aside0.mk (hbox); have n2_ := Aside0.mk ((gw hg : w.heap.size ≤ gb361)); have n3_ := Aside0.mk ((gw hg : w.heap.size ≤ gb361)); clear HB; have HB := n0_; have BK361 := n1_; have GW361 := n2_; have GE361 := n3_; clear n0_ n1_ n2_ n3_; clear hb hbox hg; have hcz20_0 : w19.cell? ⟨gb361,0,none⟩ = some (.int .i64 a0_0) := (blk_cell BK361.out 0).trans rfl; have hcz20_1 : w19.cell? ⟨gb361,1,none⟩ = some (.int .i64 a0_1) := (blk_cell BK361.out 1).trans rfl; have hcz20_2 : w19.cell? ⟨gb361,2,none⟩ = some (.int .i64 a0_2) := (blk_cell BK361.out 2).trans rfl; have hcz20_3 : w19.cell? ⟨gb361,3,none⟩ = some (.string a0_3) := (blk_cell BK361.out 3).trans rfl; have hfz20_0 := blk_frozen BK361.out 0; have hfz20_1 := blk_frozen BK361.out 1; have hfz20_2 := blk_frozen BK361.out 2; have hfz20_3 := blk_frozen BK361.out 3) | ((with_reducible refine gate_callee (f:=26) rfl ?_); refine goesL_ (some 10) rfl rfl Tryz.func26 (by kernel_rfl) rfl #[.string a0_3] rfl mA ?_; (with_reducible refine (impl_readDataKey.calls k a0_3 t362 t363 t364 false _ ?side1 A2.out).mono ?_); (case side1 => exact HV.out.below bA); rintro e w21 ⟨rfl,hb⟩; refine ⟨_,rfl,?_⟩; have n0_ := Aside0.mk (blk_below (g:=gb361) (o:=.cells #[.int .i64 a0_0,.int .i64 a0_1,.int .i64 a0_2,.string a0_3] 29 (0,0)) (kA BK361.out) hb); have n1_ := Aside0.mk (below_step bA hb); clear BK361; clear HB; have BK361 := n0_; have HB := n1_; clear n0_ n1_; (try clear hb); (try clear hb2); (try clear hk); (try clear hi)))
  go_ret
  exact ⟨by first | rfl | (simp [errW_none,errW_some] <;> rfl) | (simp [*,errW_none,errW_some] <;> rfl),bA⟩

/-! ### strings_SplitN: function 68 (by hand) -/
def splitB (s sep : ByteArray) (n : Int) : List ByteArray := Lib.splitB sep 0 (min n.toNat (s.size + 1) - 1) s
theorem splitB_len (sep : ByteArray) (save : Nat) : ∀ (k : Nat) (s : ByteArray),(Lib.splitB sep save k s).length ≤ k + 1
 | 0,s => by simp [Lib.splitB]
 | k + 1,s => by
  unfold Lib.splitB
  split
  ·simp
  ·have := splitB_len sep save k (s.extract ((Lib.indexB s sep).toNat + sep.size) s.size)
   simp only [List.length_cons]
   omega
def strings_SplitN.f (a0 : ByteArray) (a1 : ByteArray) (a2 : Int) : Option (List ByteArray) := if a0.size < 4294967281 ∧ 1 ≤ a1.size ∧ 1 ≤ a2 ∧ a2 ≤ 9223372036854775807 then some (splitB a0 a1 a2) else none
theorem strings_SplitN.calls (a0 : ByteArray) (a1 : ByteArray) (a2 : Int) (r : List ByteArray) (w : World) (hV : Vars w) (h : strings_SplitN.f a0 a1 a2 = some r) :
  Calls Tryz.prog 68 #[.string a0,.string a1,.int .i64 a2] w fun e w' => ∃ v0_ : Value,e = .returned (v0_) ∧ Kd.R Kd.string 9 w' w.heap.size (fun _ => True) v0_ r ∧ Below w.heap.size w w' := by
 unfold strings_SplitN.f at h
 split at h
 ·rename_i hb
  obtain ⟨h0,h1,h2,h3⟩ := hb
  obtain rfl := Option.some.inj h
  obtain ⟨m,hm⟩ := hV.max
  obtain ⟨n,rfl⟩ : ∃ n : Nat,a2 = n := ⟨a2.toNat,by omega⟩
  refine (Tryz.strings_SplitN a0 a1 n m w h0 hm h1 (by omega) (by omega)).mono fun e w' ⟨he,hw⟩ => ⟨_,he,?_,by subst hw; exact (Below.refl _ w).alloc (Nat.le_refl _) _⟩
  subst hw
  have hlen := splitB_len a1 0 (min n (a0.size + 1) - 1) a0
  show Kd.R Kd.string 9 _ _ _ (.slice (some ⟨w.heap.size,0,none⟩) (splitB a0 a1 n).length _) (splitB a0 a1 n)
  refine Kd.R_of_own ⟨by simp [encs],.inr ⟨w.heap.size,_,_,rfl,Nat.le_refl _,by first | (simp; done) | (show (Array.push w.heap _)[w.heap.size]? = _; rw [Array.getElem?_push_size]),?_,?_,?_,?_⟩⟩ (fun _ _ => trivial)
  ·simp only [splitB,Int.toNat_natCast]; omega
  ·unfold maxLen; omega
  ·rw [Lib.cellsOf_size (by omega),Nat.mul_one]
  ·simp only [Nat.mul_one,Lib.cellsOf,splitB,Int.toNat_natCast]
   rw [List.take_append_of_le_length (by simp),List.take_of_length_le (by simp)]
   simp [encs]
 ·cases h

/-! ### impl_parts: function 48 -/
def impl_parts.f (a0 : ByteArray) : Option (List ByteArray) := if a0.toList = ([] : List UInt8) then (some ([] : List ByteArray)) else ((strings_SplitN.f a0 (⟨#[32]⟩ : ByteArray) 9).bind fun t367 => (some t367))
set_option maxHeartbeats 8000000 in
set_option maxRecDepth 100000 in
theorem impl_parts.calls (a0 : ByteArray) (r : List ByteArray) (w : World) (hV : Vars w) (h : impl_parts.f a0 = some r) :
  Calls Tryz.prog 48 #[.string a0] w fun e w' => ∃ v0_ : Value,e = .returned (v0_) ∧ Kd.R Kd.string 9 w' w.heap.size (fun _ => True) v0_ r ∧ Below w.heap.size w w' := by
 have HV := Aside0.mk hV
 clear hV
 have HB := Aside0.mk (Below.refl w.heap.size w)
 have H : (if a0.toList = ([] : List UInt8) then (some ([] : List ByteArray)) else ((strings_SplitN.f a0 (⟨#[32]⟩ : ByteArray) 9).bind fun t367 => (some t367))) = some r := h
 clear h
 by_cases c2 : a0.toList = ([] : List UInt8)
 ·rw [if_pos c2] at H
  have c2b0 : (a0.toList == ([] : List UInt8)) = true := beq_iff_eq.mpr c2
  have c2b1 : (a0.toList != ([] : List UInt8)) = false := bne_eq_false_iff_eq.mpr c2
  clear c2
  obtain rfl := Option.some.inj H
  go_enter Tryz.func48,Tryz.ntmps48
  go_wp2
  go_ret
  exact ⟨_,by first | rfl | (simp [errW_none,errW_some] <;> rfl) | (simp [*,errW_none,errW_some] <;> rfl),by first | exact Kd.R_nil _ _ _ _ _ | exact Kd.N_nil _ _ _ _ _ | exact Kd.V_nil _ _ _ _ _ | exact Kd.Q_nil _ _ _ _ _ | exact Kd.S_nil _ _ _ _ _,bA⟩
 ·rw [if_neg c2] at H
  have c2b0 : (a0.toList == ([] : List UInt8)) = false := beq_eq_false_iff_ne.mpr c2
  have c2b1 : (a0.toList != ([] : List UInt8)) = true := bne_iff_ne.mpr c2
  replace H := Option.bind_eq_some_iff.mp H
  obtain ⟨t367,A30,H⟩ := H
  try dsimp only at H
  have A3 := Aside0.mk A30
  clear A30
  obtain rfl := Option.some.inj H
  go_enter Tryz.func48,Tryz.ntmps48
  go_wp2_with (first | ((with_reducible refine gate_callee (f:=68) rfl ?_); refine goesL_ (some 6) rfl rfl Tryz.func68 (by kernel_rfl) rfl #[.string a0,.string (⟨#[32]⟩ : ByteArray),.int .i64 9] rfl mA ?_; (with_reducible refine (strings_SplitN.calls a0 (⟨#[32]⟩ : ByteArray) 9 t367 _ ?side1 A3.out).mono ?_); (case side1 => exact HV.out.below bA); rintro e w4 ⟨v368,rfl,ho0,hb⟩; refine ⟨_,rfl,?_⟩; have n0_ := Aside0.mk (Kd.R_lower ho0 (below_size bA)); have n1_ := Aside0.mk (below_step bA hb); clear HB; have HO369 := n0_; have HB := n1_; clear n0_ n1_; (try clear hb); (try clear hb2); (try clear hk); (try clear hi); (try clear ho0)))
  go_ret
  exact ⟨_,by first | rfl | (simp [errW_none,errW_some] <;> rfl) | (simp [*,errW_none,errW_some] <;> rfl),rA HO369.out,bA⟩

/-! ### impl_number: function 54 (by hand) -/
def strI (n : Int) : ByteArray := ⟨(Lib.itoa n).toArray⟩
def numB (s : ByteArray) : Int × Bool := match Lib.atoiAll s.data.toList with
 | .ok v => (v,((strI v).toList == s.toList) && (decide (-999999999999999999 ≤ v) && decide (v ≤ 999999999999999999)))
 | .range => (Lib.atoiSat s.data.toList,false)
 | _ => (0,false)
def impl_number.f (a0 : ByteArray) : Option (Int × Bool) := if a0.size ≤ 281474976710656 then some (numB a0) else none
set_option maxHeartbeats 8000000 in
set_option maxRecDepth 100000 in
theorem impl_number.calls (a0 : ByteArray) (r1 : Int) (r2 : Bool) (w : World) (hV : Vars w) (h : impl_number.f a0 = some (r1,r2)) :
  Calls Tryz.prog 54 #[.string a0] w fun e w' => e = .returned (.tuple #[.int .i64 r1,.bool r2]) ∧ Below w.heap.size w w' := by
 unfold impl_number.f at h
 split at h
 ·rename_i hsz
  replace h := Option.some.inj h
  unfold numB at h
  rcases hA : Lib.atoiAll a0.data.toList with v | _ | _
  rotate_left
  ·rw [hA] at h
   obtain ⟨rfl,rfl⟩ := Prod.mk.inj h
   obtain ⟨ev,hv,hev⟩ := hV.syn
   have hc := Aside0.mk (Tryz.strconv_Atoi_syntax a0 hsz (by rw [hA]; exact True.intro) ev w hv hev)
   clear hV hv hev hA hsz h
   go_enter Tryz.func54,Tryz.ntmps54
   go_wp2_with (go_at_call 65; refine hc.out.mono ?_; rintro e w1 ⟨N,rfl,hN,hcell,hb⟩; clear hN hcell; have HB := Aside0.mk hb; clear hb)
   go_ret2
   exact ⟨rfl,HB.out⟩
  ·rw [hA] at h
   obtain ⟨rfl,rfl⟩ := Prod.mk.inj h
   obtain ⟨ev,hv,hev⟩ := hV.rng
   have hc := Aside0.mk (Tryz.strconv_Atoi_range a0 hsz hA ev w hv hev)
   clear hV hv hev hA hsz h
   generalize Lib.atoiSat a0.data.toList = z at hc
   go_enter Tryz.func54,Tryz.ntmps54
   go_wp2_with (go_at_call 65; refine hc.out.mono ?_; rintro e w1 ⟨N,rfl,hN,hcell,hb⟩; clear hN hcell; have HB := Aside0.mk hb; clear hb)
   go_ret2
   exact ⟨rfl,HB.out⟩
  ·rw [hA] at h
   obtain ⟨rfl,h2⟩ := Prod.mk.inj h
   have hb0 := Lib.atoiAll_bounds hA
   have hc := Aside0.mk ((Tryz.strconv_Atoi_ok a0 (by omega) v hA w).mono fun e w' ⟨he,hw⟩ => (⟨he,by rcases hw with rfl | ⟨t,rfl⟩; exact Below.refl _ _; exact Lib.bytesWorld_below w _ t⟩ : e = _ ∧ Below w.heap.size w w'))
   have hI : Aside0 (∀ W,Below w.heap.size w W → Calls Tryz.prog 73 #[.int .i64 v] W fun e w' => e = .returned (.string (strI v)) ∧ Below w.heap.size w w') := ⟨fun W hb => (strconv_Itoa.calls v (strI v) W (hV.below hb) (by unfold strconv_Itoa.f strI; rw [if_pos hb0])).mono fun e w' ⟨he,hb'⟩ => ⟨he,hb.trans (hb'.mono hb.size)⟩⟩
   have hW : Aside0 (∀ W,Calls Tryz.prog 52 #[.int .i64 v,.int .i64 (-999999999999999999),.int .i64 999999999999999999] W fun e w' => e = .returned (.bool (decide (-999999999999999999 ≤ v) && decide (v ≤ 999999999999999999))) ∧ Drawn0 W w') := ⟨fun W => impl_within.calls v _ _ _ W (by unfold impl_within.f; by_cases hq : -999999999999999999 ≤ v <;> simp [hq])⟩
   clear hA hsz h hV
   have hb0 := Aside0.mk hb0
   have h2 := Aside0.mk h2
   generalize (decide (-999999999999999999 ≤ v) && decide (v ≤ 999999999999999999)) = q at hW h2
   generalize strI v = s at hI h2
   by_cases hq : (s.toList == a0.toList) = true
   ·have hq' : s.toList = a0.toList := beq_iff_eq.1 hq
    obtain rfl : q = r2 := by have := h2.out; rw [hq] at this; simpa using this
    have hq' := Aside0.mk hq'
    clear h2
    go_enter Tryz.func54,Tryz.ntmps54
    go_wp2_with (first
     | (go_at_call 65; refine hc.out.mono ?_; rintro e w1 ⟨rfl,hb⟩; have HB := Aside0.mk hb; clear hb)
     | (go_at_call 73; refine (hI.out _ HB.out).mono ?_; rintro e w2 ⟨rfl,hb⟩; have HB2 := Aside0.mk hb; clear hb)
     | (go_at_call 52; refine (hW.out _).mono ?_; rintro e w3 ⟨rfl,⟨nd,rfl⟩⟩))
    go_ret2
    exact ⟨rfl,Drawn0.below_trans_ HB2.out nd⟩
   ·have hq0 : (s.toList == a0.toList) = false := by simpa using hq
    obtain rfl : false = r2 := by have := h2.out; rw [hq0] at this; simpa using this
    clear h2 hq
    go_enter Tryz.func54,Tryz.ntmps54
    go_wp2_with (first
     | (go_at_call 65; refine hc.out.mono ?_; rintro e w1 ⟨rfl,hb⟩; have HB := Aside0.mk hb; clear hb)
     | (go_at_call 73; refine (hI.out _ HB.out).mono ?_; rintro e w2 ⟨rfl,hb⟩; have HB2 := Aside0.mk hb; clear hb))
    go_ret2
    exact ⟨rfl,HB2.out⟩
 ·cases h

/-! ### impl_numbers: function 49 -/
def impl_numbers.l0 : Nat → List Int → List ByteArray → Int → Int → Option (List Int × Bool)
 | 0,_,_,_,_ => none
 | k + 1,x9,x24,x25,x26 => if x26 < x25 then (if 0 ≤ x26 then (if x26 < (x24.length : Int) then ((impl_number.f (rdOf ByteArray.empty x24 x26)).bind fun bt377 => (if bt377.2 = true then (if x9.length < 17592186044416 then (impl_numbers.l0 k (x9 ++ [bt377.1]) x24 x25 (wrap64 (x26 + 1))) else (none)) else (some (([] : List Int),false)))) else (none)) else (none)) else (some (x9,true))
def impl_numbers.f (k : Nat) (a0 : ByteArray) (a1 : ByteArray) (a2 : Int) : Option (List Int × Bool) := (strings_SplitN.f a0 a1 (wrap64 (a2 + 1))).bind fun t370 => (if (t370.length : Int) = a2 then (impl_numbers.l0 k (([] : List Int)) t370 (t370.length : Int) 0) else (some (([] : List Int),false)))
theorem impl_numbers.mono_l : ∀ k,(∀ y0 y1 y2 y3,LeO (impl_numbers.l0 k y0 y1 y2 y3) (impl_numbers.l0 (k + 1) y0 y1 y2 y3))
 | 0 => fun _ _ _ _ r h => by simp [impl_numbers.l0] at h
 | k + 1 => by
  have ih0 := impl_numbers.mono_l k
  ·intro y0 y1 y2 y3
   unfold impl_numbers.l0
   repeat' first
   | (with_reducible exact ih0 _ _ _ _)
   | (with_reducible exact LeO.refl _)
   | (with_reducible exact LeO.none _)
   | (with_reducible refine LeO.ite ?_ ?_)
   | (with_reducible refine LeO.bind ?_ (fun _ => ?_))
   | exact ih0 _ _ _ _
   | exact LeO.none _
   | refine LeO.ite ?_ ?_
   | refine LeO.bind ?_ (fun _ => ?_)
theorem impl_numbers.mono : ∀ a0 a1 a2 k,LeO (impl_numbers.f k a0 a1 a2) (impl_numbers.f (k + 1) a0 a1 a2) := by
 intro a0 a1 a2 k
 have ih0 := impl_numbers.mono_l k
 unfold impl_numbers.f
 repeat' first
   | (with_reducible exact ih0 _ _ _ _)
   | (with_reducible exact LeO.refl _)
   | (with_reducible exact LeO.none _)
   | (with_reducible refine LeO.ite ?_ ?_)
   | (with_reducible refine LeO.bind ?_ (fun _ => ?_))
   | exact ih0 _ _ _ _
   | exact LeO.none _
   | refine LeO.ite ?_ ?_
   | refine LeO.bind ?_ (fun _ => ?_)
set_option maxHeartbeats 8000000 in
set_option maxRecDepth 100000 in
theorem impl_numbers.calls (k : Nat) (a0 : ByteArray) (a1 : ByteArray) (a2 : Int) (r1 : List Int) (r2 : Bool) (w : World) (hV : Vars w) (h : impl_numbers.f k a0 a1 a2 = some (r1,r2)) :
  Calls Tryz.prog 49 #[.string a0,.string a1,.int .i64 a2] w fun e w' => ∃ v0_ : Value,e = .returned (.tuple #[v0_,.bool r2]) ∧ Kd.R (Kd.int .i64) 3 w' w.heap.size (fun _ => True) v0_ r1 ∧ Below w.heap.size w w' := by
 have HV := Aside0.mk hV
 clear hV
 have HB := Aside0.mk (Below.refl w.heap.size w)
 have H : ((strings_SplitN.f a0 a1 (wrap64 (a2 + 1))).bind fun t370 => (if (t370.length : Int) = a2 then (impl_numbers.l0 k (([] : List Int)) t370 (t370.length : Int) 0) else (some (([] : List Int),false)))) = some (r1,r2) := h
 clear h
 replace H := Option.bind_eq_some_iff.mp H
 obtain ⟨t370,A40,H⟩ := H
 try dsimp only at H
 have A4 := Aside0.mk A40
 clear A40
 by_cases c5 : (t370.length : Int) = a2
 ·rw [if_pos c5] at H
  have c5b0 : ((t370.length : Int) == a2) = true := beq_iff_eq.mpr c5
  have c5b1 : ((t370.length : Int) != a2) = false := bne_eq_false_iff_eq.mpr c5
  clear c5
  obtain ⟨y373,hy373⟩ : ∃ y_ : List Int,y_ = (([] : List Int)) := ⟨_,rfl⟩
  replace H : (impl_numbers.l0 k y373 t370 (t370.length : Int) 0) = some (r1,r2) := by first | (rw [hy373]; with_reducible exact H) | (have H2_ := (Option.bind_some _ _).symm.trans H; rw [hy373]; with_reducible exact H2_) | (have H2_ := (Option.bind_some _ _).symm.trans H; with_reducible exact H2_) | with_reducible exact H | (rw [hy373]; exact H) | exact H
  have Ny373 := Aside0.mk hy373
  clear hy373
  have H' := Aside0.mk H
  clear H
  go_enter Tryz.func49,Tryz.ntmps49
  go_wp2_with (first | ((with_reducible refine gate_callee (f:=68) rfl ?_); refine goesL_ (some 18) rfl rfl Tryz.func68 (by kernel_rfl) rfl #[.string a0,.string a1,.int .i64 (wrap64 (a2 + 1))] rfl mA ?_; (with_reducible refine (strings_SplitN.calls a0 a1 (wrap64 (a2 + 1)) t370 _ ?side1 A4.out).mono ?_); (case side1 => exact HV.out.below bA); rintro e w6 ⟨v371,rfl,ho0,hb⟩; refine ⟨_,rfl,?_⟩; have n0_ := Aside0.mk (Kd.R_lower ho0 (below_size bA)); have n1_ := Aside0.mk (below_step bA hb); clear HB; have HO372 := n0_; have HB := n1_; clear n0_ n1_; (try clear hb); (try clear hb2); (try clear hk); (try clear hi); (try clear ho0); obtain ⟨Ao7,co7,eo7⟩ := Kd.R_slice HO372.out; subst eo7) | ((with_reducible refine gate_dst (N:=23) rfl ?_); refine Kd.R_lit (Kd.int .i64) _ 3 ?hg (N:=23) ?hd (xs := ([] : List Int)) (inner := []) (ok := fun _ => True) (okp := fun _ => True) ?hr ?hp (fun _ hk => hk) trivial (Below.refl _ _) (Nat.le_refl _) (by simp) ?_; (case hd => rfl); (case hg => rfl); (case hr => first | (go_simp; done) | (go_simp; rfl)); (case hp => exact (Reps.none _ _)); intro v374 w8 ho9 hb hg_ hnew_; clear hg_ hnew_; (first | rw [← Ny373.out] at ho9 | (simp only [Int.reduceToNat] at ho9; rw [← Ny373.out] at ho9)); have n0_ := Aside0.mk (Kd.R_below (rA HO372.out) hb); have n1_ := Aside0.mk (Kd.R_lower ho9 (below_size bA)); have n2_ := Aside0.mk (below_step bA hb); clear HO372; clear HB; have HO372 := n0_; have HO375 := n1_; have HB := n2_; clear n0_ n1_ n2_; clear hb ho9))
  go_loopg [9,26] k (fun kq v9 v26 w' => ∃ (x9_1 : List Int) (x26_1 : Int),v26 = .int .i64 x26_1 ∧ Aside0 (impl_numbers.l0 kq x9_1 t370 (t370.length : Int) x26_1 = some (r1,r2)) ∧ Aside0 (kq ≤ k) ∧ Aside0 (Kd.R (Kd.int .i64) 3 w' w.heap.size (fun _ => True) v9 x9_1) ∧ Aside0 (Kd.R Kd.string 9 w' w.heap.size (fun _ => True) (.slice Ao7 t370.length co7) t370) ∧ Aside0 (Below w.heap.size w w'))
  case atStart => exact ⟨(y373),(0),(by first | rfl | (simp; done) | (simp [*]; done)),H',⟨Nat.le_refl _⟩,⟨rA HO375.out⟩,⟨rA HO372.out⟩,⟨bA⟩⟩
  case round =>
   clear H'
   try clear p2
   try clear c4
   try clear c5
   try clear c5b0
   try clear c5b1
   try clear c6
   try clear p6
   obtain ⟨x9_1,x26_1,rfl,HA,HK1,HO_9,HO_24,HB⟩ := hrel
   cases gk with
   | zero => exact absurd HA.out (by simp [impl_numbers.l0])
   | succ k1 =>
    have H := HA.out
    clear HA
    simp only [impl_numbers.l0] at H
    by_cases c10 : x26_1 < (t370.length : Int)
    ·rw [if_pos c10] at H
     have c10b0 : decide (x26_1 < (t370.length : Int)) = true := decide_eq_true c10
     clear c10
     by_cases c11 : 0 ≤ x26_1
     ·rw [if_pos c11] at H
      have c11b0 : decide (0 ≤ x26_1) = true := decide_eq_true c11
      clear c11
      by_cases c12 : x26_1 < (t370.length : Int)
      ·rw [if_pos c12] at H
       have c12b0 : decide (x26_1 < (t370.length : Int)) = true := decide_eq_true c12
       clear c12
       replace H := Option.bind_eq_some_iff.mp H
       obtain ⟨⟨t377,t378⟩,A130,H⟩ := H
       try dsimp only at H
       have A13 := Aside0.mk A130
       clear A130
       by_cases c14 : t378 = true
       ·subst c14
        rw [if_pos rfl] at H
        by_cases c15 : x9_1.length < 17592186044416
        ·rw [if_pos c15] at H
         have LMc15 := Aside0.mk c15
         clear c15
         obtain ⟨y379,hy379⟩ : ∃ y_ : List Int,y_ = (x9_1 ++ [t377]) := ⟨_,rfl⟩
         replace H : (impl_numbers.l0 k1 y379 t370 (t370.length : Int) (wrap64 (x26_1 + 1))) = some (r1,r2) := by first | (rw [hy379]; with_reducible exact H) | (have H2_ := (Option.bind_some _ _).symm.trans H; rw [hy379]; with_reducible exact H2_) | (have H2_ := (Option.bind_some _ _).symm.trans H; with_reducible exact H2_) | with_reducible exact H | (rw [hy379]; exact H) | exact H
         have Ny379 := Aside0.mk hy379
         clear hy379
         have H' := Aside0.mk H
         clear H
         have p376 : 0 ≤ (x26_1 : Int) := od
         have q376 : x26_1 < (t370.length : Int) := od
         obtain ⟨ad376,e376,hx376_0⟩ := Kd.at_string (Kd.R_reads' HO_24.out).2.2 x26_1 p376 q376
         cases e376
         replace p376 := eq_true p376
         replace q376 := eq_true q376
         go_wp2_with (first | ((with_reducible refine gate_callee (f:=54) rfl ?_); refine goesL_ (some 32) rfl rfl Tryz.func54 (by kernel_rfl) rfl #[.string (rdOf ByteArray.empty t370 x26_1)] rfl mA ?_; (with_reducible refine (impl_number.calls (rdOf ByteArray.empty t370 x26_1) t377 true _ ?side1 A13.out).mono ?_); (case side1 => exact HV.out.below bA); rintro e w16 ⟨rfl,hb⟩; refine ⟨_,rfl,?_⟩; have n0_ := Aside0.mk (Kd.R_below (rA HO_9.out) hb); have n1_ := Aside0.mk (Kd.R_below (rA HO_24.out) hb); have n2_ := Aside0.mk (below_step bA hb); clear HO_9; clear HO_24; clear HB; have HO_9 := n0_; have HO_24 := n1_; have HB := n2_; clear n0_ n1_ n2_; (try clear hb); (try clear hb2); (try clear hk); (try clear hi)) | ((with_reducible refine gate_builtin (b:=.append) (xs := #[.tmp 37,.tmp 39]) rfl ?_); at_builtin; refine Kd.R_append (Kd.int .i64) (w0 := w) w.heap.size rfl (.tmp 37) (.tmp 39) 68 3 (.int .i64 0) 8 rfl Tryz.underlying68 info3 rfl (by decide) (by omega) u9 x9_1 t377 [.int .i64 t377] (fun _ => True) (fun _ => False) rfl rfl ?aP (fun _ hk => hk.elim) ?aF ?aO ?aB ?aS ?aL ?_; (case aP => exact rfl); (case aB => exact bA); (case aF => exact (fun _ _ => trivial)); (case aO => exact (rA HO_9.out)); (case aS => exact (below_size bA)); (case aL => have := LMc15.out; omega); intro v380 w17 ho hb hg hat; rw [← Ny379.out] at ho; have n0_ := Aside0.mk (Kd.R_over' (rA HO_24.out) (Kd.R_typed (rA HO_9.out)) (by decide) hg); have n1_ := Aside0.mk (hb); have n2_ := Aside0.mk (ho); clear HO_24; clear HB; clear HO_9; have HO_24 := n0_; have HB := n1_; have HO381 := n2_; clear n0_ n1_ n2_; clear ho hb hg hat))
         go_roundg k1
         case measure => have := HK1.out; omega
         case rel => exact ⟨(y379),(wrap64 (x26_1 + 1)),(by first | rfl | (simp; done) | (simp [*]; done)),H',⟨by have := HK1.out; omega⟩,⟨rA HO381.out⟩,⟨rA HO_24.out⟩,⟨bA⟩⟩
        ·rw [if_neg c15] at H
         exact absurd H (by simp)
       ·replace c14 := Bool.eq_false_iff.mpr c14
        subst c14
        rw [if_neg (show ¬ (false = true) by decide)] at H
        simp only [Option.some.injEq,Prod.mk.injEq] at H
        obtain ⟨rfl,rfl⟩ := H
        have p376 : 0 ≤ (x26_1 : Int) := od
        have q376 : x26_1 < (t370.length : Int) := od
        obtain ⟨ad376,e376,hx376_0⟩ := Kd.at_string (Kd.R_reads' HO_24.out).2.2 x26_1 p376 q376
        cases e376
        replace p376 := eq_true p376
        replace q376 := eq_true q376
        go_wp2_with (first | ((with_reducible refine gate_callee (f:=54) rfl ?_); refine goesL_ (some 32) rfl rfl Tryz.func54 (by kernel_rfl) rfl #[.string (rdOf ByteArray.empty t370 x26_1)] rfl mA ?_; (with_reducible refine (impl_number.calls (rdOf ByteArray.empty t370 x26_1) t377 false _ ?side1 A13.out).mono ?_); (case side1 => exact HV.out.below bA); rintro e w18 ⟨rfl,hb⟩; refine ⟨_,rfl,?_⟩; have n0_ := Aside0.mk (Kd.R_below (rA HO_9.out) hb); have n1_ := Aside0.mk (Kd.R_below (rA HO_24.out) hb); have n2_ := Aside0.mk (below_step bA hb); clear HO_9; clear HO_24; clear HB; have HO_9 := n0_; have HO_24 := n1_; have HB := n2_; clear n0_ n1_ n2_; (try clear hb); (try clear hb2); (try clear hk); (try clear hi)))
        go_ret2
        exact ⟨_,by first | rfl | (simp only [i64_w,i32_w] <;> rfl) | (simp [errW_none,errW_some] <;> rfl) | (simp [*,errW_none,errW_some] <;> rfl),by first | exact Kd.R_nil _ _ _ _ _ | exact Kd.N_nil _ _ _ _ _ | exact Kd.V_nil _ _ _ _ _ | exact Kd.Q_nil _ _ _ _ _ | exact Kd.S_nil _ _ _ _ _,bA⟩
      ·rw [if_neg c12] at H
       exact absurd H (by simp)
     ·rw [if_neg c11] at H
      exact absurd H (by simp)
    ·rw [if_neg c10] at H
     have c10b0 : decide (x26_1 < (t370.length : Int)) = false := decide_eq_false c10
     clear c10
     simp only [Option.some.injEq,Prod.mk.injEq] at H
     obtain ⟨rfl,rfl⟩ := H
     go_wp2
     go_ret2
     exact ⟨_,by first | rfl | (simp only [i64_w,i32_w] <;> rfl) | (simp [errW_none,errW_some] <;> rfl) | (simp [*,errW_none,errW_some] <;> rfl),rA HO_9.out,bA⟩
 ·rw [if_neg c5] at H
  have c5b0 : ((t370.length : Int) == a2) = false := beq_eq_false_iff_ne.mpr c5
  have c5b1 : ((t370.length : Int) != a2) = true := bne_iff_ne.mpr c5
  simp only [Option.some.injEq,Prod.mk.injEq] at H
  obtain ⟨rfl,rfl⟩ := H
  go_enter Tryz.func49,Tryz.ntmps49
  go_wp2_with (first | ((with_reducible refine gate_callee (f:=68) rfl ?_); refine goesL_ (some 18) rfl rfl Tryz.func68 (by kernel_rfl) rfl #[.string a0,.string a1,.int .i64 (wrap64 (a2 + 1))] rfl mA ?_; (with_reducible refine (strings_SplitN.calls a0 a1 (wrap64 (a2 + 1)) t370 _ ?side1 A4.out).mono ?_); (case side1 => exact HV.out.below bA); rintro e w19 ⟨v371,rfl,ho0,hb⟩; refine ⟨_,rfl,?_⟩; have n0_ := Aside0.mk (Kd.R_lower ho0 (below_size bA)); have n1_ := Aside0.mk (below_step bA hb); clear HB; have HO372 := n0_; have HB := n1_; clear n0_ n1_; (try clear hb); (try clear hb2); (try clear hk); (try clear hi); (try clear ho0); obtain ⟨Ao20,co20,eo20⟩ := Kd.R_slice HO372.out; subst eo20))
  go_ret2
  exact ⟨_,by first | rfl | (simp only [i64_w,i32_w] <;> rfl) | (simp [errW_none,errW_some] <;> rfl) | (simp [*,errW_none,errW_some] <;> rfl),by first | exact Kd.R_nil _ _ _ _ _ | exact Kd.N_nil _ _ _ _ _ | exact Kd.V_nil _ _ _ _ _ | exact Kd.Q_nil _ _ _ _ _ | exact Kd.S_nil _ _ _ _ _,bA⟩

/-! ### impl_Sample: function 69 -/
def impl_Sample.f (l0 : List (S49)) : Option (Bool) := some (decide ((l0.length : Int) > 4096))
set_option maxHeartbeats 8000000 in
set_option maxRecDepth 100000 in
theorem impl_Sample.calls (A0 : Option Addr) (c0 : Nat) (l0 : List (S49)) (r : Bool) (w : World) (hr0 : Kd.C k49 w A0 l0.length l0) (hc0 : l0.length ≤ c0) (h : impl_Sample.f l0 = some r) :
  Calls Tryz.prog 69 #[.slice A0 l0.length c0] w fun e w' => e = .returned (.bool r) ∧ Drawn0 w w' := by
 have HR0 := Aside0.mk hr0
 have HC0 := Aside0.mk hc0
 clear hr0 hc0
 have H : (some (decide ((l0.length : Int) > 4096))) = some r := h
 clear h
 obtain rfl := Option.some.inj H
 go_enter Tryz.func69,Tryz.ntmps69
 go_wp2
 go_ret
 exact ⟨by first | rfl | (simp; done) | (simp [*]; done),by repeat (first | exact Drawn0.refl _ | apply Drawn0.step)⟩

/-! ### impl_isMoment: function 70 -/
def impl_isMoment.f (a0 : Int) : Option (Bool) := (impl_within.f a0 0 99999).bind fun t382 => (some t382)
set_option maxHeartbeats 8000000 in
set_option maxRecDepth 100000 in
theorem impl_isMoment.calls (a0 : Int) (r : Bool) (w : World) (h : impl_isMoment.f a0 = some r) :
  Calls Tryz.prog 70 #[.int .i64 a0] w fun e w' => e = .returned (.bool r) ∧ Drawn0 w w' := by
 have H : ((impl_within.f a0 0 99999).bind fun t382 => (some t382)) = some r := h
 clear h
 replace H := Option.bind_eq_some_iff.mp H
 obtain ⟨t382,A20,H⟩ := H
 try dsimp only at H
 have A2 := Aside0.mk A20
 clear A20
 obtain rfl := Option.some.inj H
 go_enter Tryz.func70,Tryz.ntmps70
 go_wp2_with (first | ((with_reducible refine gate_callee (f:=52) rfl ?_); refine goesL_ (some 4) rfl rfl Tryz.func52 (by kernel_rfl) rfl #[.int .i64 a0,.int .i64 0,.int .i64 99999] rfl mA ?_; (with_reducible refine (impl_within.calls a0 0 99999 t382 _ A2.out).mono ?_); rintro e w' ⟨rfl,⟨nd,rfl⟩⟩; refine ⟨_,rfl,?_⟩))
 go_ret
 exact ⟨by first | rfl | (simp; done) | (simp [*]; done),by repeat (first | exact Drawn0.refl _ | apply Drawn0.step)⟩

/-! ### impl_isValue: function 71 -/
def impl_isValue.f (a0 : Int) : Option (Bool) := (impl_within.f a0 (-1000000) 1000000).bind fun t383 => (some t383)
set_option maxHeartbeats 8000000 in
set_option maxRecDepth 100000 in
theorem impl_isValue.calls (a0 : Int) (r : Bool) (w : World) (h : impl_isValue.f a0 = some r) :
  Calls Tryz.prog 71 #[.int .i64 a0] w fun e w' => e = .returned (.bool r) ∧ Drawn0 w w' := by
 have H : ((impl_within.f a0 (-1000000) 1000000).bind fun t383 => (some t383)) = some r := h
 clear h
 replace H := Option.bind_eq_some_iff.mp H
 obtain ⟨t383,A20,H⟩ := H
 try dsimp only at H
 have A2 := Aside0.mk A20
 clear A20
 obtain rfl := Option.some.inj H
 go_enter Tryz.func71,Tryz.ntmps71
 go_wp2_with (first | ((with_reducible refine gate_callee (f:=52) rfl ?_); refine goesL_ (some 4) rfl rfl Tryz.func52 (by kernel_rfl) rfl #[.int .i64 a0,.int .i64 (-1000000),.int .i64 1000000] rfl mA ?_; (with_reducible refine (impl_within.calls a0 (-1000000) 1000000 t383 _ A2.out).mono ?_); rintro e w' ⟨rfl,⟨nd,rfl⟩⟩; refine ⟨_,rfl,?_⟩))
 go_ret
 exact ⟨by first | rfl | (simp; done) | (simp [*]; done),by repeat (first | exact Drawn0.refl _ | apply Drawn0.step)⟩

end Go.Proofs.YtleifhnoaaphmaaGreatDoor.XFnExactWindowOf
