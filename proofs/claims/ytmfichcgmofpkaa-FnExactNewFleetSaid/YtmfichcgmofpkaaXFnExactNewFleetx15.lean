-- Printed by this session's own program wip/tools/xprint.py, which widens the kit's print. Not trusted: Lean checks it.
import Derived.Test.YtmfichcgmofpkaaXFnExactNewFleetx0
import Derived.Test.YtmfichcgmofpkaaXFnExactNewFleetx12
namespace Go.Proofs.Ytmfichcgmofpkaa.XFnExactNewFleet
open Go.RowKit Go.Proofs.YtmfichcgmofpkaaW.PrintWords Go.Proofs.YtmfichcgmofpkaaW.PrintLast Go.Proofs.YtmfichcgmofpkaaW.PrintMore
attribute [local go_sem] max2_int min2_int max_two min_two max_three min_three max_four min_four   -- for this text's walks alone
set_option linter.unusedVariables false
set_option linter.unusedSimpArgs false

/-! ### laws_heldReaderS: function 27 -/
def laws_heldReaderS.l0 : Nat → List (S48) → Int → Int → Option (Int)
 | 0,_,_,_ => none
 | k + 1,x0,x1,x5 => if x5 < (x0.length : Int) then (if 0 ≤ x5 then (if ((rd_T48 x0 x5).f0) = x1 then (if ((rd_T48 x0 x5).f1) = (wrap64 (x1 + 1)) then (if ((rd_T48 x0 x5).f2) = (wrap64 ((wrap64 (x1 + 1)) + 1)) then (if ((rd_T48 x0 x5).f3) = (wrap64 ((wrap64 ((wrap64 (x1 + 1)) + 1)) + 1)) then (if ((rd_T48 x0 x5).f4) = (wrap64 ((wrap64 ((wrap64 ((wrap64 (x1 + 1)) + 1)) + 1)) + 1)) then (if ((rd_T48 x0 x5).f5) = (wrap64 ((wrap64 ((wrap64 ((wrap64 ((wrap64 (x1 + 1)) + 1)) + 1)) + 1)) + 1)) then (if ((rd_T48 x0 x5).f6) = (wrap64 ((wrap64 ((wrap64 ((wrap64 ((wrap64 ((wrap64 (x1 + 1)) + 1)) + 1)) + 1)) + 1)) + 1)) then ((laws_heldEntryS.f k ([] : List (S90)) (wrap64 ((wrap64 ((wrap64 ((wrap64 ((wrap64 ((wrap64 ((wrap64 (x1 + 1)) + 1)) + 1)) + 1)) + 1)) + 1)) + 1))).bind fun t409 => (if t409 < 0 then (some (-1)) else (if ((rd_T48 x0 x5).f8.f0) = t409 then (if ((rd_T48 x0 x5).f8.f1) = (wrap64 (t409 + 1)) then (if ((rd_T48 x0 x5).f8.f2) = (wrap64 ((wrap64 (t409 + 1)) + 1)) then (if ((rd_T48 x0 x5).f8.f3) = (wrap64 ((wrap64 ((wrap64 (t409 + 1)) + 1)) + 1)) then (if ((rd_T48 x0 x5).f8.f4) = (wrap64 ((wrap64 ((wrap64 ((wrap64 (t409 + 1)) + 1)) + 1)) + 1)) then (if ((rd_T48 x0 x5).f8.f5) = (wrap64 ((wrap64 ((wrap64 ((wrap64 ((wrap64 (t409 + 1)) + 1)) + 1)) + 1)) + 1)) then (laws_heldReaderS.l0 k x0 (wrap64 ((wrap64 ((wrap64 ((wrap64 ((wrap64 ((wrap64 (t409 + 1)) + 1)) + 1)) + 1)) + 1)) + 1)) (wrap64 (x5 + 1))) else (some (-1))) else (some (-1))) else (some (-1))) else (some (-1))) else (some (-1))) else (some (-1))))) else (some (-1))) else (some (-1))) else (some (-1))) else (some (-1))) else (some (-1))) else (some (-1))) else (some (-1))) else (none)) else (some x1)
def laws_heldReaderS.f (k : Nat) (l0 : List (S48)) (a1 : Int) : Option (Int) := laws_heldReaderS.l0 k l0 a1 0
theorem laws_heldReaderS.mono_l : ∀ k,(∀ y0 y1 y2,LeO (laws_heldReaderS.l0 k y0 y1 y2) (laws_heldReaderS.l0 (k + 1) y0 y1 y2))
 | 0 => fun _ _ _ r h => by simp [laws_heldReaderS.l0] at h
 | k + 1 => by
  have ih0 := laws_heldReaderS.mono_l k
  ·intro y0 y1 y2
   unfold laws_heldReaderS.l0
   repeat' first
   | (with_reducible first | exact ih0 .. | exact laws_heldEntryS.mono .. | exact LeO.refl _ | exact LeO.none _ | refine LeO.ite ?_ ?_ | refine LeO.bind ?_ (fun _ => ?_))
   | exact LeO.none _ | refine LeO.ite ?_ ?_ | refine LeO.bind ?_ (fun _ => ?_)
theorem laws_heldReaderS.mono : ∀ a0 a1 k,LeO (laws_heldReaderS.f k a0 a1) (laws_heldReaderS.f (k + 1) a0 a1) := by
 intro a0 a1 k
 have ih0 := laws_heldReaderS.mono_l k
 unfold laws_heldReaderS.f
 repeat' first
 | (with_reducible first | exact ih0 .. | exact laws_heldEntryS.mono .. | exact LeO.refl _ | exact LeO.none _ | refine LeO.ite ?_ ?_ | refine LeO.bind ?_ (fun _ => ?_))
 | exact LeO.none _ | refine LeO.ite ?_ ?_ | refine LeO.bind ?_ (fun _ => ?_)
set_option maxHeartbeats 8000000 in
set_option maxRecDepth 100000 in
theorem laws_heldReaderS.calls (k : Nat) (A0 : Option Addr) (c0 : Nat) (l0 : List (S48)) (a1 : Int) (r : Int) (w : World) (hr0 : Kd.C k48 w A0 l0.length l0) (hc0 : l0.length ≤ c0) (h : laws_heldReaderS.f k l0 a1 = some r) :
  Calls Try.prog 27 #[.slice A0 l0.length c0,.int .i64 a1] w fun e w' => e = .returned (.int .i64 r) ∧ Below w.heap.size w w' := by
 have HR0 := Aside0.mk hr0
 have HC0 := Aside0.mk hc0
 clear hr0 hc0
 have HB := Aside0.mk (Below.refl w.heap.size w)
 have H : (laws_heldReaderS.l0 k l0 a1 0) = some r := h
 clear h
 have H' := Aside0.mk H
 clear H
 go_enter Try.func27,Try.ntmps27
 go_wp2
 go_loopg [1,5] k (fun kq v1 v5 w' => ∃ (x1_1 : Int) (x5_1 : Int),v1 = .int .i64 x1_1 ∧ v5 = .int .i64 x5_1 ∧ Aside0 (laws_heldReaderS.l0 kq l0 x1_1 x5_1 = some r) ∧ Aside0 (kq ≤ k) ∧ Aside0 (Below w.heap.size w w'))
 case atStart => exact ⟨(a1),(0),(by first | rfl | (simp; done) | (simp [*]; done)),(by first | rfl | (simp; done) | (simp [*]; done)),H',⟨Nat.le_refl _⟩,⟨bA⟩⟩
 case round =>
  clear H'
  try clear c2
  try clear p2
  obtain ⟨x1_1,x5_1,rfl,rfl,HA,HK1,HB⟩ := hrel
  cases gk with
  | zero => exact absurd HA.out (by simp [laws_heldReaderS.l0])
  | succ k1 =>
   have H := HA.out
   clear HA
   simp only [laws_heldReaderS.l0] at H
   by_cases c3 : x5_1 < (l0.length : Int)
   ·rw [if_pos c3] at H
    have c3b0 : decide (x5_1 < (l0.length : Int)) = true := decide_eq_true c3
    clear c3
    by_cases c4 : 0 ≤ x5_1
    ·rw [if_pos c4] at H
     have c4b0 : decide (0 ≤ x5_1) = true := decide_eq_true c4
     clear c4
     by_cases c5 : ((rd_T48 l0 x5_1).f0) = x1_1
     ·rw [if_pos c5] at H
      have c5b0 : (((rd_T48 l0 x5_1).f0) == x1_1) = true := beq_iff_eq.mpr c5
      have c5b1 : (((rd_T48 l0 x5_1).f0) != x1_1) = false := bne_eq_false_iff_eq.mpr c5
      clear c5
      by_cases c6 : ((rd_T48 l0 x5_1).f1) = (wrap64 (x1_1 + 1))
      ·rw [if_pos c6] at H
       have c6b0 : (((rd_T48 l0 x5_1).f1) == (wrap64 (x1_1 + 1))) = true := beq_iff_eq.mpr c6
       have c6b1 : (((rd_T48 l0 x5_1).f1) != (wrap64 (x1_1 + 1))) = false := bne_eq_false_iff_eq.mpr c6
       clear c6
       by_cases c7 : ((rd_T48 l0 x5_1).f2) = (wrap64 ((wrap64 (x1_1 + 1)) + 1))
       ·rw [if_pos c7] at H
        have c7b0 : (((rd_T48 l0 x5_1).f2) == (wrap64 ((wrap64 (x1_1 + 1)) + 1))) = true := beq_iff_eq.mpr c7
        have c7b1 : (((rd_T48 l0 x5_1).f2) != (wrap64 ((wrap64 (x1_1 + 1)) + 1))) = false := bne_eq_false_iff_eq.mpr c7
        clear c7
        by_cases c8 : ((rd_T48 l0 x5_1).f3) = (wrap64 ((wrap64 ((wrap64 (x1_1 + 1)) + 1)) + 1))
        ·rw [if_pos c8] at H
         have c8b0 : (((rd_T48 l0 x5_1).f3) == (wrap64 ((wrap64 ((wrap64 (x1_1 + 1)) + 1)) + 1))) = true := beq_iff_eq.mpr c8
         have c8b1 : (((rd_T48 l0 x5_1).f3) != (wrap64 ((wrap64 ((wrap64 (x1_1 + 1)) + 1)) + 1))) = false := bne_eq_false_iff_eq.mpr c8
         clear c8
         by_cases c9 : ((rd_T48 l0 x5_1).f4) = (wrap64 ((wrap64 ((wrap64 ((wrap64 (x1_1 + 1)) + 1)) + 1)) + 1))
         ·rw [if_pos c9] at H
          have c9b0 : (((rd_T48 l0 x5_1).f4) == (wrap64 ((wrap64 ((wrap64 ((wrap64 (x1_1 + 1)) + 1)) + 1)) + 1))) = true := beq_iff_eq.mpr c9
          have c9b1 : (((rd_T48 l0 x5_1).f4) != (wrap64 ((wrap64 ((wrap64 ((wrap64 (x1_1 + 1)) + 1)) + 1)) + 1))) = false := bne_eq_false_iff_eq.mpr c9
          clear c9
          by_cases c10 : ((rd_T48 l0 x5_1).f5) = (wrap64 ((wrap64 ((wrap64 ((wrap64 ((wrap64 (x1_1 + 1)) + 1)) + 1)) + 1)) + 1))
          ·rw [if_pos c10] at H
           have c10b0 : (((rd_T48 l0 x5_1).f5) == (wrap64 ((wrap64 ((wrap64 ((wrap64 ((wrap64 (x1_1 + 1)) + 1)) + 1)) + 1)) + 1))) = true := beq_iff_eq.mpr c10
           have c10b1 : (((rd_T48 l0 x5_1).f5) != (wrap64 ((wrap64 ((wrap64 ((wrap64 ((wrap64 (x1_1 + 1)) + 1)) + 1)) + 1)) + 1))) = false := bne_eq_false_iff_eq.mpr c10
           clear c10
           by_cases c11 : ((rd_T48 l0 x5_1).f6) = (wrap64 ((wrap64 ((wrap64 ((wrap64 ((wrap64 ((wrap64 (x1_1 + 1)) + 1)) + 1)) + 1)) + 1)) + 1))
           ·rw [if_pos c11] at H
            have c11b0 : (((rd_T48 l0 x5_1).f6) == (wrap64 ((wrap64 ((wrap64 ((wrap64 ((wrap64 ((wrap64 (x1_1 + 1)) + 1)) + 1)) + 1)) + 1)) + 1))) = true := beq_iff_eq.mpr c11
            have c11b1 : (((rd_T48 l0 x5_1).f6) != (wrap64 ((wrap64 ((wrap64 ((wrap64 ((wrap64 ((wrap64 (x1_1 + 1)) + 1)) + 1)) + 1)) + 1)) + 1))) = false := bne_eq_false_iff_eq.mpr c11
            clear c11
            replace H := Option.bind_eq_some_iff.mp H
            obtain ⟨t409,A120,H⟩ := H
            try dsimp only at H
            have A12 := Aside0.mk A120
            clear A120
            by_cases c13 : t409 < 0
            ·rw [if_pos c13] at H
             have c13b0 : decide (t409 < 0) = true := decide_eq_true c13
             clear c13
             obtain rfl := Option.some.inj H
             have p401 : 0 ≤ (x5_1 : Int) := od
             have q401 : x5_1 < (l0.length : Int) := od
             obtain ⟨ad401,A401_7,c401_7,e401,hx401_0,hx401_1,hx401_2,hx401_3,hx401_4,hx401_5,hx401_6,hx401_7,hx401_8,hx401_9,hx401_10,hx401_11,hx401_12,hx401_13⟩ := at_T48 HR0.out x5_1 p401 q401
             cases e401
             replace hx401_0 := cb HB.out hx401_0
             replace hx401_1 := cb HB.out hx401_1
             replace hx401_2 := cb HB.out hx401_2
             replace hx401_3 := cb HB.out hx401_3
             replace hx401_4 := cb HB.out hx401_4
             replace hx401_5 := cb HB.out hx401_5
             replace hx401_6 := cb HB.out hx401_6
             replace hx401_7 := cb HB.out hx401_7
             replace hx401_8 := cb HB.out hx401_8
             replace hx401_9 := cb HB.out hx401_9
             replace hx401_10 := cb HB.out hx401_10
             replace hx401_11 := cb HB.out hx401_11
             replace hx401_12 := cb HB.out hx401_12
             replace hx401_13 := cb HB.out hx401_13
             replace p401 := eq_true p401
             replace q401 := eq_true q401
             go_wp2_with (first | ((with_reducible refine gate_callee (f:=44) rfl ?_); refine goesL_ (some 81) rfl rfl Try.func44 (by kernel_rfl) rfl #[.slice A401_7 0 c401_7,.int .i64 (wrap64 ((wrap64 ((wrap64 ((wrap64 ((wrap64 ((wrap64 ((wrap64 (x1_1 + 1)) + 1)) + 1)) + 1)) + 1)) + 1)) + 1))] rfl mA ?_; (refine (laws_heldEntryS.calls k1 _ _ ([] : List (S90)) (wrap64 ((wrap64 ((wrap64 ((wrap64 ((wrap64 ((wrap64 ((wrap64 (x1_1 + 1)) + 1)) + 1)) + 1)) + 1)) + 1)) + 1)) t409 _ ?side1 ?side2 A12.out).mono ?_); (case side1 => exact kEmp_C _ _ _); (case side2 => exact Nat.zero_le _); rintro e w14 ⟨rfl,hb⟩; refine ⟨_,rfl,?_⟩; replace HB := bsA hb; clear hb))
             go_ret
             exact ⟨by first | rfl | (simp only [i64_w,i32_w] <;> rfl) | (simp [errW_none,errW_some] <;> rfl) | (simp [*,errW_none,errW_some] <;> rfl),bA⟩
            ·rw [if_neg c13] at H
             have c13b0 : decide (t409 < 0) = false := decide_eq_false c13
             clear c13
             by_cases c15 : ((rd_T48 l0 x5_1).f8.f0) = t409
             ·rw [if_pos c15] at H
              have c15b0 : (((rd_T48 l0 x5_1).f8.f0) == t409) = true := beq_iff_eq.mpr c15
              have c15b1 : (((rd_T48 l0 x5_1).f8.f0) != t409) = false := bne_eq_false_iff_eq.mpr c15
              clear c15
              by_cases c16 : ((rd_T48 l0 x5_1).f8.f1) = (wrap64 (t409 + 1))
              ·rw [if_pos c16] at H
               have c16b0 : (((rd_T48 l0 x5_1).f8.f1) == (wrap64 (t409 + 1))) = true := beq_iff_eq.mpr c16
               have c16b1 : (((rd_T48 l0 x5_1).f8.f1) != (wrap64 (t409 + 1))) = false := bne_eq_false_iff_eq.mpr c16
               clear c16
               by_cases c17 : ((rd_T48 l0 x5_1).f8.f2) = (wrap64 ((wrap64 (t409 + 1)) + 1))
               ·rw [if_pos c17] at H
                have c17b0 : (((rd_T48 l0 x5_1).f8.f2) == (wrap64 ((wrap64 (t409 + 1)) + 1))) = true := beq_iff_eq.mpr c17
                have c17b1 : (((rd_T48 l0 x5_1).f8.f2) != (wrap64 ((wrap64 (t409 + 1)) + 1))) = false := bne_eq_false_iff_eq.mpr c17
                clear c17
                by_cases c18 : ((rd_T48 l0 x5_1).f8.f3) = (wrap64 ((wrap64 ((wrap64 (t409 + 1)) + 1)) + 1))
                ·rw [if_pos c18] at H
                 have c18b0 : (((rd_T48 l0 x5_1).f8.f3) == (wrap64 ((wrap64 ((wrap64 (t409 + 1)) + 1)) + 1))) = true := beq_iff_eq.mpr c18
                 have c18b1 : (((rd_T48 l0 x5_1).f8.f3) != (wrap64 ((wrap64 ((wrap64 (t409 + 1)) + 1)) + 1))) = false := bne_eq_false_iff_eq.mpr c18
                 clear c18
                 by_cases c19 : ((rd_T48 l0 x5_1).f8.f4) = (wrap64 ((wrap64 ((wrap64 ((wrap64 (t409 + 1)) + 1)) + 1)) + 1))
                 ·rw [if_pos c19] at H
                  have c19b0 : (((rd_T48 l0 x5_1).f8.f4) == (wrap64 ((wrap64 ((wrap64 ((wrap64 (t409 + 1)) + 1)) + 1)) + 1))) = true := beq_iff_eq.mpr c19
                  have c19b1 : (((rd_T48 l0 x5_1).f8.f4) != (wrap64 ((wrap64 ((wrap64 ((wrap64 (t409 + 1)) + 1)) + 1)) + 1))) = false := bne_eq_false_iff_eq.mpr c19
                  clear c19
                  by_cases c20 : ((rd_T48 l0 x5_1).f8.f5) = (wrap64 ((wrap64 ((wrap64 ((wrap64 ((wrap64 (t409 + 1)) + 1)) + 1)) + 1)) + 1))
                  ·rw [if_pos c20] at H
                   have c20b0 : (((rd_T48 l0 x5_1).f8.f5) == (wrap64 ((wrap64 ((wrap64 ((wrap64 ((wrap64 (t409 + 1)) + 1)) + 1)) + 1)) + 1))) = true := beq_iff_eq.mpr c20
                   have c20b1 : (((rd_T48 l0 x5_1).f8.f5) != (wrap64 ((wrap64 ((wrap64 ((wrap64 ((wrap64 (t409 + 1)) + 1)) + 1)) + 1)) + 1))) = false := bne_eq_false_iff_eq.mpr c20
                   clear c20
                   have H' := Aside0.mk H
                   clear H
                   have p401 : 0 ≤ (x5_1 : Int) := od
                   have q401 : x5_1 < (l0.length : Int) := od
                   obtain ⟨ad401,A401_7,c401_7,e401,hx401_0,hx401_1,hx401_2,hx401_3,hx401_4,hx401_5,hx401_6,hx401_7,hx401_8,hx401_9,hx401_10,hx401_11,hx401_12,hx401_13⟩ := at_T48 HR0.out x5_1 p401 q401
                   cases e401
                   replace hx401_0 := cb HB.out hx401_0
                   replace hx401_1 := cb HB.out hx401_1
                   replace hx401_2 := cb HB.out hx401_2
                   replace hx401_3 := cb HB.out hx401_3
                   replace hx401_4 := cb HB.out hx401_4
                   replace hx401_5 := cb HB.out hx401_5
                   replace hx401_6 := cb HB.out hx401_6
                   replace hx401_7 := cb HB.out hx401_7
                   replace hx401_8 := cb HB.out hx401_8
                   replace hx401_9 := cb HB.out hx401_9
                   replace hx401_10 := cb HB.out hx401_10
                   replace hx401_11 := cb HB.out hx401_11
                   replace hx401_12 := cb HB.out hx401_12
                   replace hx401_13 := cb HB.out hx401_13
                   replace p401 := eq_true p401
                   replace q401 := eq_true q401
                   go_wp2_with (first | ((with_reducible refine gate_callee (f:=44) rfl ?_); refine goesL_ (some 81) rfl rfl Try.func44 (by kernel_rfl) rfl #[.slice A401_7 0 c401_7,.int .i64 (wrap64 ((wrap64 ((wrap64 ((wrap64 ((wrap64 ((wrap64 ((wrap64 (x1_1 + 1)) + 1)) + 1)) + 1)) + 1)) + 1)) + 1))] rfl mA ?_; (refine (laws_heldEntryS.calls k1 _ _ ([] : List (S90)) (wrap64 ((wrap64 ((wrap64 ((wrap64 ((wrap64 ((wrap64 ((wrap64 (x1_1 + 1)) + 1)) + 1)) + 1)) + 1)) + 1)) + 1)) t409 _ ?side1 ?side2 A12.out).mono ?_); (case side1 => exact kEmp_C _ _ _); (case side2 => exact Nat.zero_le _); rintro e w21 ⟨rfl,hb⟩; refine ⟨_,rfl,?_⟩; replace HB := bsA hb; clear hb; have p410 : 0 ≤ (x5_1 : Int) := od; have q410 : x5_1 < (l0.length : Int) := od; obtain ⟨ad410,A410_7,c410_7,e410,hx410_0,hx410_1,hx410_2,hx410_3,hx410_4,hx410_5,hx410_6,hx410_7,hx410_8,hx410_9,hx410_10,hx410_11,hx410_12,hx410_13⟩ := at_T48 HR0.out x5_1 p410 q410; obtain rfl : ad401 = ad410 := (by injection e410); replace hx410_0 := cb HB.out hx410_0; replace hx410_1 := cb HB.out hx410_1; replace hx410_2 := cb HB.out hx410_2; replace hx410_3 := cb HB.out hx410_3; replace hx410_4 := cb HB.out hx410_4; replace hx410_5 := cb HB.out hx410_5; replace hx410_6 := cb HB.out hx410_6; replace hx410_7 := cb HB.out hx410_7; replace hx410_8 := cb HB.out hx410_8; replace hx410_9 := cb HB.out hx410_9; replace hx410_10 := cb HB.out hx410_10; replace hx410_11 := cb HB.out hx410_11; replace hx410_12 := cb HB.out hx410_12; replace hx410_13 := cb HB.out hx410_13; replace p410 := eq_true p410; replace q410 := eq_true q410))
                   go_roundg k1
                   case measure => have := HK1.out; omega
                   case rel => exact ⟨(wrap64 ((wrap64 ((wrap64 ((wrap64 ((wrap64 ((wrap64 (t409 + 1)) + 1)) + 1)) + 1)) + 1)) + 1)),(wrap64 (x5_1 + 1)),(by first | rfl | (simp; done) | (simp [*]; done)),(by first | rfl | (simp; done) | (simp [*]; done)),H',⟨by have := HK1.out; omega⟩,⟨bA⟩⟩
                  ·rw [if_neg c20] at H
                   have c20b0 : (((rd_T48 l0 x5_1).f8.f5) == (wrap64 ((wrap64 ((wrap64 ((wrap64 ((wrap64 (t409 + 1)) + 1)) + 1)) + 1)) + 1))) = false := beq_eq_false_iff_ne.mpr c20
                   have c20b1 : (((rd_T48 l0 x5_1).f8.f5) != (wrap64 ((wrap64 ((wrap64 ((wrap64 ((wrap64 (t409 + 1)) + 1)) + 1)) + 1)) + 1))) = true := bne_iff_ne.mpr c20
                   obtain rfl := Option.some.inj H
                   have p401 : 0 ≤ (x5_1 : Int) := od
                   have q401 : x5_1 < (l0.length : Int) := od
                   obtain ⟨ad401,A401_7,c401_7,e401,hx401_0,hx401_1,hx401_2,hx401_3,hx401_4,hx401_5,hx401_6,hx401_7,hx401_8,hx401_9,hx401_10,hx401_11,hx401_12,hx401_13⟩ := at_T48 HR0.out x5_1 p401 q401
                   cases e401
                   replace hx401_0 := cb HB.out hx401_0
                   replace hx401_1 := cb HB.out hx401_1
                   replace hx401_2 := cb HB.out hx401_2
                   replace hx401_3 := cb HB.out hx401_3
                   replace hx401_4 := cb HB.out hx401_4
                   replace hx401_5 := cb HB.out hx401_5
                   replace hx401_6 := cb HB.out hx401_6
                   replace hx401_7 := cb HB.out hx401_7
                   replace hx401_8 := cb HB.out hx401_8
                   replace hx401_9 := cb HB.out hx401_9
                   replace hx401_10 := cb HB.out hx401_10
                   replace hx401_11 := cb HB.out hx401_11
                   replace hx401_12 := cb HB.out hx401_12
                   replace hx401_13 := cb HB.out hx401_13
                   replace p401 := eq_true p401
                   replace q401 := eq_true q401
                   go_wp2_with (first | ((with_reducible refine gate_callee (f:=44) rfl ?_); refine goesL_ (some 81) rfl rfl Try.func44 (by kernel_rfl) rfl #[.slice A401_7 0 c401_7,.int .i64 (wrap64 ((wrap64 ((wrap64 ((wrap64 ((wrap64 ((wrap64 ((wrap64 (x1_1 + 1)) + 1)) + 1)) + 1)) + 1)) + 1)) + 1))] rfl mA ?_; (refine (laws_heldEntryS.calls k1 _ _ ([] : List (S90)) (wrap64 ((wrap64 ((wrap64 ((wrap64 ((wrap64 ((wrap64 ((wrap64 (x1_1 + 1)) + 1)) + 1)) + 1)) + 1)) + 1)) + 1)) t409 _ ?side1 ?side2 A12.out).mono ?_); (case side1 => exact kEmp_C _ _ _); (case side2 => exact Nat.zero_le _); rintro e w22 ⟨rfl,hb⟩; refine ⟨_,rfl,?_⟩; replace HB := bsA hb; clear hb; have p410 : 0 ≤ (x5_1 : Int) := od; have q410 : x5_1 < (l0.length : Int) := od; obtain ⟨ad410,A410_7,c410_7,e410,hx410_0,hx410_1,hx410_2,hx410_3,hx410_4,hx410_5,hx410_6,hx410_7,hx410_8,hx410_9,hx410_10,hx410_11,hx410_12,hx410_13⟩ := at_T48 HR0.out x5_1 p410 q410; obtain rfl : ad401 = ad410 := (by injection e410); replace hx410_0 := cb HB.out hx410_0; replace hx410_1 := cb HB.out hx410_1; replace hx410_2 := cb HB.out hx410_2; replace hx410_3 := cb HB.out hx410_3; replace hx410_4 := cb HB.out hx410_4; replace hx410_5 := cb HB.out hx410_5; replace hx410_6 := cb HB.out hx410_6; replace hx410_7 := cb HB.out hx410_7; replace hx410_8 := cb HB.out hx410_8; replace hx410_9 := cb HB.out hx410_9; replace hx410_10 := cb HB.out hx410_10; replace hx410_11 := cb HB.out hx410_11; replace hx410_12 := cb HB.out hx410_12; replace hx410_13 := cb HB.out hx410_13; replace p410 := eq_true p410; replace q410 := eq_true q410))
                   go_ret
                   exact ⟨by first | rfl | (simp only [i64_w,i32_w] <;> rfl) | (simp [errW_none,errW_some] <;> rfl) | (simp [*,errW_none,errW_some] <;> rfl),bA⟩
                 ·rw [if_neg c19] at H
                  have c19b0 : (((rd_T48 l0 x5_1).f8.f4) == (wrap64 ((wrap64 ((wrap64 ((wrap64 (t409 + 1)) + 1)) + 1)) + 1))) = false := beq_eq_false_iff_ne.mpr c19
                  have c19b1 : (((rd_T48 l0 x5_1).f8.f4) != (wrap64 ((wrap64 ((wrap64 ((wrap64 (t409 + 1)) + 1)) + 1)) + 1))) = true := bne_iff_ne.mpr c19
                  obtain rfl := Option.some.inj H
                  have p401 : 0 ≤ (x5_1 : Int) := od
                  have q401 : x5_1 < (l0.length : Int) := od
                  obtain ⟨ad401,A401_7,c401_7,e401,hx401_0,hx401_1,hx401_2,hx401_3,hx401_4,hx401_5,hx401_6,hx401_7,hx401_8,hx401_9,hx401_10,hx401_11,hx401_12,hx401_13⟩ := at_T48 HR0.out x5_1 p401 q401
                  cases e401
                  replace hx401_0 := cb HB.out hx401_0
                  replace hx401_1 := cb HB.out hx401_1
                  replace hx401_2 := cb HB.out hx401_2
                  replace hx401_3 := cb HB.out hx401_3
                  replace hx401_4 := cb HB.out hx401_4
                  replace hx401_5 := cb HB.out hx401_5
                  replace hx401_6 := cb HB.out hx401_6
                  replace hx401_7 := cb HB.out hx401_7
                  replace hx401_8 := cb HB.out hx401_8
                  replace hx401_9 := cb HB.out hx401_9
                  replace hx401_10 := cb HB.out hx401_10
                  replace hx401_11 := cb HB.out hx401_11
                  replace hx401_12 := cb HB.out hx401_12
                  replace hx401_13 := cb HB.out hx401_13
                  replace p401 := eq_true p401
                  replace q401 := eq_true q401
                  go_wp2_with (first | ((with_reducible refine gate_callee (f:=44) rfl ?_); refine goesL_ (some 81) rfl rfl Try.func44 (by kernel_rfl) rfl #[.slice A401_7 0 c401_7,.int .i64 (wrap64 ((wrap64 ((wrap64 ((wrap64 ((wrap64 ((wrap64 ((wrap64 (x1_1 + 1)) + 1)) + 1)) + 1)) + 1)) + 1)) + 1))] rfl mA ?_; (refine (laws_heldEntryS.calls k1 _ _ ([] : List (S90)) (wrap64 ((wrap64 ((wrap64 ((wrap64 ((wrap64 ((wrap64 ((wrap64 (x1_1 + 1)) + 1)) + 1)) + 1)) + 1)) + 1)) + 1)) t409 _ ?side1 ?side2 A12.out).mono ?_); (case side1 => exact kEmp_C _ _ _); (case side2 => exact Nat.zero_le _); rintro e w23 ⟨rfl,hb⟩; refine ⟨_,rfl,?_⟩; replace HB := bsA hb; clear hb; have p410 : 0 ≤ (x5_1 : Int) := od; have q410 : x5_1 < (l0.length : Int) := od; obtain ⟨ad410,A410_7,c410_7,e410,hx410_0,hx410_1,hx410_2,hx410_3,hx410_4,hx410_5,hx410_6,hx410_7,hx410_8,hx410_9,hx410_10,hx410_11,hx410_12,hx410_13⟩ := at_T48 HR0.out x5_1 p410 q410; obtain rfl : ad401 = ad410 := (by injection e410); replace hx410_0 := cb HB.out hx410_0; replace hx410_1 := cb HB.out hx410_1; replace hx410_2 := cb HB.out hx410_2; replace hx410_3 := cb HB.out hx410_3; replace hx410_4 := cb HB.out hx410_4; replace hx410_5 := cb HB.out hx410_5; replace hx410_6 := cb HB.out hx410_6; replace hx410_7 := cb HB.out hx410_7; replace hx410_8 := cb HB.out hx410_8; replace hx410_9 := cb HB.out hx410_9; replace hx410_10 := cb HB.out hx410_10; replace hx410_11 := cb HB.out hx410_11; replace hx410_12 := cb HB.out hx410_12; replace hx410_13 := cb HB.out hx410_13; replace p410 := eq_true p410; replace q410 := eq_true q410))
                  go_ret
                  exact ⟨by first | rfl | (simp only [i64_w,i32_w] <;> rfl) | (simp [errW_none,errW_some] <;> rfl) | (simp [*,errW_none,errW_some] <;> rfl),bA⟩
                ·rw [if_neg c18] at H
                 have c18b0 : (((rd_T48 l0 x5_1).f8.f3) == (wrap64 ((wrap64 ((wrap64 (t409 + 1)) + 1)) + 1))) = false := beq_eq_false_iff_ne.mpr c18
                 have c18b1 : (((rd_T48 l0 x5_1).f8.f3) != (wrap64 ((wrap64 ((wrap64 (t409 + 1)) + 1)) + 1))) = true := bne_iff_ne.mpr c18
                 obtain rfl := Option.some.inj H
                 have p401 : 0 ≤ (x5_1 : Int) := od
                 have q401 : x5_1 < (l0.length : Int) := od
                 obtain ⟨ad401,A401_7,c401_7,e401,hx401_0,hx401_1,hx401_2,hx401_3,hx401_4,hx401_5,hx401_6,hx401_7,hx401_8,hx401_9,hx401_10,hx401_11,hx401_12,hx401_13⟩ := at_T48 HR0.out x5_1 p401 q401
                 cases e401
                 replace hx401_0 := cb HB.out hx401_0
                 replace hx401_1 := cb HB.out hx401_1
                 replace hx401_2 := cb HB.out hx401_2
                 replace hx401_3 := cb HB.out hx401_3
                 replace hx401_4 := cb HB.out hx401_4
                 replace hx401_5 := cb HB.out hx401_5
                 replace hx401_6 := cb HB.out hx401_6
                 replace hx401_7 := cb HB.out hx401_7
                 replace hx401_8 := cb HB.out hx401_8
                 replace hx401_9 := cb HB.out hx401_9
                 replace hx401_10 := cb HB.out hx401_10
                 replace hx401_11 := cb HB.out hx401_11
                 replace hx401_12 := cb HB.out hx401_12
                 replace hx401_13 := cb HB.out hx401_13
                 replace p401 := eq_true p401
                 replace q401 := eq_true q401
                 go_wp2_with (first | ((with_reducible refine gate_callee (f:=44) rfl ?_); refine goesL_ (some 81) rfl rfl Try.func44 (by kernel_rfl) rfl #[.slice A401_7 0 c401_7,.int .i64 (wrap64 ((wrap64 ((wrap64 ((wrap64 ((wrap64 ((wrap64 ((wrap64 (x1_1 + 1)) + 1)) + 1)) + 1)) + 1)) + 1)) + 1))] rfl mA ?_; (refine (laws_heldEntryS.calls k1 _ _ ([] : List (S90)) (wrap64 ((wrap64 ((wrap64 ((wrap64 ((wrap64 ((wrap64 ((wrap64 (x1_1 + 1)) + 1)) + 1)) + 1)) + 1)) + 1)) + 1)) t409 _ ?side1 ?side2 A12.out).mono ?_); (case side1 => exact kEmp_C _ _ _); (case side2 => exact Nat.zero_le _); rintro e w24 ⟨rfl,hb⟩; refine ⟨_,rfl,?_⟩; replace HB := bsA hb; clear hb; have p410 : 0 ≤ (x5_1 : Int) := od; have q410 : x5_1 < (l0.length : Int) := od; obtain ⟨ad410,A410_7,c410_7,e410,hx410_0,hx410_1,hx410_2,hx410_3,hx410_4,hx410_5,hx410_6,hx410_7,hx410_8,hx410_9,hx410_10,hx410_11,hx410_12,hx410_13⟩ := at_T48 HR0.out x5_1 p410 q410; obtain rfl : ad401 = ad410 := (by injection e410); replace hx410_0 := cb HB.out hx410_0; replace hx410_1 := cb HB.out hx410_1; replace hx410_2 := cb HB.out hx410_2; replace hx410_3 := cb HB.out hx410_3; replace hx410_4 := cb HB.out hx410_4; replace hx410_5 := cb HB.out hx410_5; replace hx410_6 := cb HB.out hx410_6; replace hx410_7 := cb HB.out hx410_7; replace hx410_8 := cb HB.out hx410_8; replace hx410_9 := cb HB.out hx410_9; replace hx410_10 := cb HB.out hx410_10; replace hx410_11 := cb HB.out hx410_11; replace hx410_12 := cb HB.out hx410_12; replace hx410_13 := cb HB.out hx410_13; replace p410 := eq_true p410; replace q410 := eq_true q410))
                 go_ret
                 exact ⟨by first | rfl | (simp only [i64_w,i32_w] <;> rfl) | (simp [errW_none,errW_some] <;> rfl) | (simp [*,errW_none,errW_some] <;> rfl),bA⟩
               ·rw [if_neg c17] at H
                have c17b0 : (((rd_T48 l0 x5_1).f8.f2) == (wrap64 ((wrap64 (t409 + 1)) + 1))) = false := beq_eq_false_iff_ne.mpr c17
                have c17b1 : (((rd_T48 l0 x5_1).f8.f2) != (wrap64 ((wrap64 (t409 + 1)) + 1))) = true := bne_iff_ne.mpr c17
                obtain rfl := Option.some.inj H
                have p401 : 0 ≤ (x5_1 : Int) := od
                have q401 : x5_1 < (l0.length : Int) := od
                obtain ⟨ad401,A401_7,c401_7,e401,hx401_0,hx401_1,hx401_2,hx401_3,hx401_4,hx401_5,hx401_6,hx401_7,hx401_8,hx401_9,hx401_10,hx401_11,hx401_12,hx401_13⟩ := at_T48 HR0.out x5_1 p401 q401
                cases e401
                replace hx401_0 := cb HB.out hx401_0
                replace hx401_1 := cb HB.out hx401_1
                replace hx401_2 := cb HB.out hx401_2
                replace hx401_3 := cb HB.out hx401_3
                replace hx401_4 := cb HB.out hx401_4
                replace hx401_5 := cb HB.out hx401_5
                replace hx401_6 := cb HB.out hx401_6
                replace hx401_7 := cb HB.out hx401_7
                replace hx401_8 := cb HB.out hx401_8
                replace hx401_9 := cb HB.out hx401_9
                replace hx401_10 := cb HB.out hx401_10
                replace hx401_11 := cb HB.out hx401_11
                replace hx401_12 := cb HB.out hx401_12
                replace hx401_13 := cb HB.out hx401_13
                replace p401 := eq_true p401
                replace q401 := eq_true q401
                go_wp2_with (first | ((with_reducible refine gate_callee (f:=44) rfl ?_); refine goesL_ (some 81) rfl rfl Try.func44 (by kernel_rfl) rfl #[.slice A401_7 0 c401_7,.int .i64 (wrap64 ((wrap64 ((wrap64 ((wrap64 ((wrap64 ((wrap64 ((wrap64 (x1_1 + 1)) + 1)) + 1)) + 1)) + 1)) + 1)) + 1))] rfl mA ?_; (refine (laws_heldEntryS.calls k1 _ _ ([] : List (S90)) (wrap64 ((wrap64 ((wrap64 ((wrap64 ((wrap64 ((wrap64 ((wrap64 (x1_1 + 1)) + 1)) + 1)) + 1)) + 1)) + 1)) + 1)) t409 _ ?side1 ?side2 A12.out).mono ?_); (case side1 => exact kEmp_C _ _ _); (case side2 => exact Nat.zero_le _); rintro e w25 ⟨rfl,hb⟩; refine ⟨_,rfl,?_⟩; replace HB := bsA hb; clear hb; have p410 : 0 ≤ (x5_1 : Int) := od; have q410 : x5_1 < (l0.length : Int) := od; obtain ⟨ad410,A410_7,c410_7,e410,hx410_0,hx410_1,hx410_2,hx410_3,hx410_4,hx410_5,hx410_6,hx410_7,hx410_8,hx410_9,hx410_10,hx410_11,hx410_12,hx410_13⟩ := at_T48 HR0.out x5_1 p410 q410; obtain rfl : ad401 = ad410 := (by injection e410); replace hx410_0 := cb HB.out hx410_0; replace hx410_1 := cb HB.out hx410_1; replace hx410_2 := cb HB.out hx410_2; replace hx410_3 := cb HB.out hx410_3; replace hx410_4 := cb HB.out hx410_4; replace hx410_5 := cb HB.out hx410_5; replace hx410_6 := cb HB.out hx410_6; replace hx410_7 := cb HB.out hx410_7; replace hx410_8 := cb HB.out hx410_8; replace hx410_9 := cb HB.out hx410_9; replace hx410_10 := cb HB.out hx410_10; replace hx410_11 := cb HB.out hx410_11; replace hx410_12 := cb HB.out hx410_12; replace hx410_13 := cb HB.out hx410_13; replace p410 := eq_true p410; replace q410 := eq_true q410))
                go_ret
                exact ⟨by first | rfl | (simp only [i64_w,i32_w] <;> rfl) | (simp [errW_none,errW_some] <;> rfl) | (simp [*,errW_none,errW_some] <;> rfl),bA⟩
              ·rw [if_neg c16] at H
               have c16b0 : (((rd_T48 l0 x5_1).f8.f1) == (wrap64 (t409 + 1))) = false := beq_eq_false_iff_ne.mpr c16
               have c16b1 : (((rd_T48 l0 x5_1).f8.f1) != (wrap64 (t409 + 1))) = true := bne_iff_ne.mpr c16
               obtain rfl := Option.some.inj H
               have p401 : 0 ≤ (x5_1 : Int) := od
               have q401 : x5_1 < (l0.length : Int) := od
               obtain ⟨ad401,A401_7,c401_7,e401,hx401_0,hx401_1,hx401_2,hx401_3,hx401_4,hx401_5,hx401_6,hx401_7,hx401_8,hx401_9,hx401_10,hx401_11,hx401_12,hx401_13⟩ := at_T48 HR0.out x5_1 p401 q401
               cases e401
               replace hx401_0 := cb HB.out hx401_0
               replace hx401_1 := cb HB.out hx401_1
               replace hx401_2 := cb HB.out hx401_2
               replace hx401_3 := cb HB.out hx401_3
               replace hx401_4 := cb HB.out hx401_4
               replace hx401_5 := cb HB.out hx401_5
               replace hx401_6 := cb HB.out hx401_6
               replace hx401_7 := cb HB.out hx401_7
               replace hx401_8 := cb HB.out hx401_8
               replace hx401_9 := cb HB.out hx401_9
               replace hx401_10 := cb HB.out hx401_10
               replace hx401_11 := cb HB.out hx401_11
               replace hx401_12 := cb HB.out hx401_12
               replace hx401_13 := cb HB.out hx401_13
               replace p401 := eq_true p401
               replace q401 := eq_true q401
               go_wp2_with (first | ((with_reducible refine gate_callee (f:=44) rfl ?_); refine goesL_ (some 81) rfl rfl Try.func44 (by kernel_rfl) rfl #[.slice A401_7 0 c401_7,.int .i64 (wrap64 ((wrap64 ((wrap64 ((wrap64 ((wrap64 ((wrap64 ((wrap64 (x1_1 + 1)) + 1)) + 1)) + 1)) + 1)) + 1)) + 1))] rfl mA ?_; (refine (laws_heldEntryS.calls k1 _ _ ([] : List (S90)) (wrap64 ((wrap64 ((wrap64 ((wrap64 ((wrap64 ((wrap64 ((wrap64 (x1_1 + 1)) + 1)) + 1)) + 1)) + 1)) + 1)) + 1)) t409 _ ?side1 ?side2 A12.out).mono ?_); (case side1 => exact kEmp_C _ _ _); (case side2 => exact Nat.zero_le _); rintro e w26 ⟨rfl,hb⟩; refine ⟨_,rfl,?_⟩; replace HB := bsA hb; clear hb; have p410 : 0 ≤ (x5_1 : Int) := od; have q410 : x5_1 < (l0.length : Int) := od; obtain ⟨ad410,A410_7,c410_7,e410,hx410_0,hx410_1,hx410_2,hx410_3,hx410_4,hx410_5,hx410_6,hx410_7,hx410_8,hx410_9,hx410_10,hx410_11,hx410_12,hx410_13⟩ := at_T48 HR0.out x5_1 p410 q410; obtain rfl : ad401 = ad410 := (by injection e410); replace hx410_0 := cb HB.out hx410_0; replace hx410_1 := cb HB.out hx410_1; replace hx410_2 := cb HB.out hx410_2; replace hx410_3 := cb HB.out hx410_3; replace hx410_4 := cb HB.out hx410_4; replace hx410_5 := cb HB.out hx410_5; replace hx410_6 := cb HB.out hx410_6; replace hx410_7 := cb HB.out hx410_7; replace hx410_8 := cb HB.out hx410_8; replace hx410_9 := cb HB.out hx410_9; replace hx410_10 := cb HB.out hx410_10; replace hx410_11 := cb HB.out hx410_11; replace hx410_12 := cb HB.out hx410_12; replace hx410_13 := cb HB.out hx410_13; replace p410 := eq_true p410; replace q410 := eq_true q410))
               go_ret
               exact ⟨by first | rfl | (simp only [i64_w,i32_w] <;> rfl) | (simp [errW_none,errW_some] <;> rfl) | (simp [*,errW_none,errW_some] <;> rfl),bA⟩
             ·rw [if_neg c15] at H
              have c15b0 : (((rd_T48 l0 x5_1).f8.f0) == t409) = false := beq_eq_false_iff_ne.mpr c15
              have c15b1 : (((rd_T48 l0 x5_1).f8.f0) != t409) = true := bne_iff_ne.mpr c15
              obtain rfl := Option.some.inj H
              have p401 : 0 ≤ (x5_1 : Int) := od
              have q401 : x5_1 < (l0.length : Int) := od
              obtain ⟨ad401,A401_7,c401_7,e401,hx401_0,hx401_1,hx401_2,hx401_3,hx401_4,hx401_5,hx401_6,hx401_7,hx401_8,hx401_9,hx401_10,hx401_11,hx401_12,hx401_13⟩ := at_T48 HR0.out x5_1 p401 q401
              cases e401
              replace hx401_0 := cb HB.out hx401_0
              replace hx401_1 := cb HB.out hx401_1
              replace hx401_2 := cb HB.out hx401_2
              replace hx401_3 := cb HB.out hx401_3
              replace hx401_4 := cb HB.out hx401_4
              replace hx401_5 := cb HB.out hx401_5
              replace hx401_6 := cb HB.out hx401_6
              replace hx401_7 := cb HB.out hx401_7
              replace hx401_8 := cb HB.out hx401_8
              replace hx401_9 := cb HB.out hx401_9
              replace hx401_10 := cb HB.out hx401_10
              replace hx401_11 := cb HB.out hx401_11
              replace hx401_12 := cb HB.out hx401_12
              replace hx401_13 := cb HB.out hx401_13
              replace p401 := eq_true p401
              replace q401 := eq_true q401
              go_wp2_with (first | ((with_reducible refine gate_callee (f:=44) rfl ?_); refine goesL_ (some 81) rfl rfl Try.func44 (by kernel_rfl) rfl #[.slice A401_7 0 c401_7,.int .i64 (wrap64 ((wrap64 ((wrap64 ((wrap64 ((wrap64 ((wrap64 ((wrap64 (x1_1 + 1)) + 1)) + 1)) + 1)) + 1)) + 1)) + 1))] rfl mA ?_; (refine (laws_heldEntryS.calls k1 _ _ ([] : List (S90)) (wrap64 ((wrap64 ((wrap64 ((wrap64 ((wrap64 ((wrap64 ((wrap64 (x1_1 + 1)) + 1)) + 1)) + 1)) + 1)) + 1)) + 1)) t409 _ ?side1 ?side2 A12.out).mono ?_); (case side1 => exact kEmp_C _ _ _); (case side2 => exact Nat.zero_le _); rintro e w27 ⟨rfl,hb⟩; refine ⟨_,rfl,?_⟩; replace HB := bsA hb; clear hb; have p410 : 0 ≤ (x5_1 : Int) := od; have q410 : x5_1 < (l0.length : Int) := od; obtain ⟨ad410,A410_7,c410_7,e410,hx410_0,hx410_1,hx410_2,hx410_3,hx410_4,hx410_5,hx410_6,hx410_7,hx410_8,hx410_9,hx410_10,hx410_11,hx410_12,hx410_13⟩ := at_T48 HR0.out x5_1 p410 q410; obtain rfl : ad401 = ad410 := (by injection e410); replace hx410_0 := cb HB.out hx410_0; replace hx410_1 := cb HB.out hx410_1; replace hx410_2 := cb HB.out hx410_2; replace hx410_3 := cb HB.out hx410_3; replace hx410_4 := cb HB.out hx410_4; replace hx410_5 := cb HB.out hx410_5; replace hx410_6 := cb HB.out hx410_6; replace hx410_7 := cb HB.out hx410_7; replace hx410_8 := cb HB.out hx410_8; replace hx410_9 := cb HB.out hx410_9; replace hx410_10 := cb HB.out hx410_10; replace hx410_11 := cb HB.out hx410_11; replace hx410_12 := cb HB.out hx410_12; replace hx410_13 := cb HB.out hx410_13; replace p410 := eq_true p410; replace q410 := eq_true q410))
              go_ret
              exact ⟨by first | rfl | (simp only [i64_w,i32_w] <;> rfl) | (simp [errW_none,errW_some] <;> rfl) | (simp [*,errW_none,errW_some] <;> rfl),bA⟩
           ·rw [if_neg c11] at H
            have c11b0 : (((rd_T48 l0 x5_1).f6) == (wrap64 ((wrap64 ((wrap64 ((wrap64 ((wrap64 ((wrap64 (x1_1 + 1)) + 1)) + 1)) + 1)) + 1)) + 1))) = false := beq_eq_false_iff_ne.mpr c11
            have c11b1 : (((rd_T48 l0 x5_1).f6) != (wrap64 ((wrap64 ((wrap64 ((wrap64 ((wrap64 ((wrap64 (x1_1 + 1)) + 1)) + 1)) + 1)) + 1)) + 1))) = true := bne_iff_ne.mpr c11
            obtain rfl := Option.some.inj H
            have p401 : 0 ≤ (x5_1 : Int) := od
            have q401 : x5_1 < (l0.length : Int) := od
            obtain ⟨ad401,A401_7,c401_7,e401,hx401_0,hx401_1,hx401_2,hx401_3,hx401_4,hx401_5,hx401_6,hx401_7,hx401_8,hx401_9,hx401_10,hx401_11,hx401_12,hx401_13⟩ := at_T48 HR0.out x5_1 p401 q401
            cases e401
            replace hx401_0 := cb HB.out hx401_0
            replace hx401_1 := cb HB.out hx401_1
            replace hx401_2 := cb HB.out hx401_2
            replace hx401_3 := cb HB.out hx401_3
            replace hx401_4 := cb HB.out hx401_4
            replace hx401_5 := cb HB.out hx401_5
            replace hx401_6 := cb HB.out hx401_6
            replace hx401_7 := cb HB.out hx401_7
            replace hx401_8 := cb HB.out hx401_8
            replace hx401_9 := cb HB.out hx401_9
            replace hx401_10 := cb HB.out hx401_10
            replace hx401_11 := cb HB.out hx401_11
            replace hx401_12 := cb HB.out hx401_12
            replace hx401_13 := cb HB.out hx401_13
            replace p401 := eq_true p401
            replace q401 := eq_true q401
            go_wp2
            go_ret
            exact ⟨by first | rfl | (simp only [i64_w,i32_w] <;> rfl) | (simp [errW_none,errW_some] <;> rfl) | (simp [*,errW_none,errW_some] <;> rfl),bA⟩
          ·rw [if_neg c10] at H
           have c10b0 : (((rd_T48 l0 x5_1).f5) == (wrap64 ((wrap64 ((wrap64 ((wrap64 ((wrap64 (x1_1 + 1)) + 1)) + 1)) + 1)) + 1))) = false := beq_eq_false_iff_ne.mpr c10
           have c10b1 : (((rd_T48 l0 x5_1).f5) != (wrap64 ((wrap64 ((wrap64 ((wrap64 ((wrap64 (x1_1 + 1)) + 1)) + 1)) + 1)) + 1))) = true := bne_iff_ne.mpr c10
           obtain rfl := Option.some.inj H
           have p401 : 0 ≤ (x5_1 : Int) := od
           have q401 : x5_1 < (l0.length : Int) := od
           obtain ⟨ad401,A401_7,c401_7,e401,hx401_0,hx401_1,hx401_2,hx401_3,hx401_4,hx401_5,hx401_6,hx401_7,hx401_8,hx401_9,hx401_10,hx401_11,hx401_12,hx401_13⟩ := at_T48 HR0.out x5_1 p401 q401
           cases e401
           replace hx401_0 := cb HB.out hx401_0
           replace hx401_1 := cb HB.out hx401_1
           replace hx401_2 := cb HB.out hx401_2
           replace hx401_3 := cb HB.out hx401_3
           replace hx401_4 := cb HB.out hx401_4
           replace hx401_5 := cb HB.out hx401_5
           replace hx401_6 := cb HB.out hx401_6
           replace hx401_7 := cb HB.out hx401_7
           replace hx401_8 := cb HB.out hx401_8
           replace hx401_9 := cb HB.out hx401_9
           replace hx401_10 := cb HB.out hx401_10
           replace hx401_11 := cb HB.out hx401_11
           replace hx401_12 := cb HB.out hx401_12
           replace hx401_13 := cb HB.out hx401_13
           replace p401 := eq_true p401
           replace q401 := eq_true q401
           go_wp2
           go_ret
           exact ⟨by first | rfl | (simp only [i64_w,i32_w] <;> rfl) | (simp [errW_none,errW_some] <;> rfl) | (simp [*,errW_none,errW_some] <;> rfl),bA⟩
         ·rw [if_neg c9] at H
          have c9b0 : (((rd_T48 l0 x5_1).f4) == (wrap64 ((wrap64 ((wrap64 ((wrap64 (x1_1 + 1)) + 1)) + 1)) + 1))) = false := beq_eq_false_iff_ne.mpr c9
          have c9b1 : (((rd_T48 l0 x5_1).f4) != (wrap64 ((wrap64 ((wrap64 ((wrap64 (x1_1 + 1)) + 1)) + 1)) + 1))) = true := bne_iff_ne.mpr c9
          obtain rfl := Option.some.inj H
          have p401 : 0 ≤ (x5_1 : Int) := od
          have q401 : x5_1 < (l0.length : Int) := od
          obtain ⟨ad401,A401_7,c401_7,e401,hx401_0,hx401_1,hx401_2,hx401_3,hx401_4,hx401_5,hx401_6,hx401_7,hx401_8,hx401_9,hx401_10,hx401_11,hx401_12,hx401_13⟩ := at_T48 HR0.out x5_1 p401 q401
          cases e401
          replace hx401_0 := cb HB.out hx401_0
          replace hx401_1 := cb HB.out hx401_1
          replace hx401_2 := cb HB.out hx401_2
          replace hx401_3 := cb HB.out hx401_3
          replace hx401_4 := cb HB.out hx401_4
          replace hx401_5 := cb HB.out hx401_5
          replace hx401_6 := cb HB.out hx401_6
          replace hx401_7 := cb HB.out hx401_7
          replace hx401_8 := cb HB.out hx401_8
          replace hx401_9 := cb HB.out hx401_9
          replace hx401_10 := cb HB.out hx401_10
          replace hx401_11 := cb HB.out hx401_11
          replace hx401_12 := cb HB.out hx401_12
          replace hx401_13 := cb HB.out hx401_13
          replace p401 := eq_true p401
          replace q401 := eq_true q401
          go_wp2
          go_ret
          exact ⟨by first | rfl | (simp only [i64_w,i32_w] <;> rfl) | (simp [errW_none,errW_some] <;> rfl) | (simp [*,errW_none,errW_some] <;> rfl),bA⟩
        ·rw [if_neg c8] at H
         have c8b0 : (((rd_T48 l0 x5_1).f3) == (wrap64 ((wrap64 ((wrap64 (x1_1 + 1)) + 1)) + 1))) = false := beq_eq_false_iff_ne.mpr c8
         have c8b1 : (((rd_T48 l0 x5_1).f3) != (wrap64 ((wrap64 ((wrap64 (x1_1 + 1)) + 1)) + 1))) = true := bne_iff_ne.mpr c8
         obtain rfl := Option.some.inj H
         have p401 : 0 ≤ (x5_1 : Int) := od
         have q401 : x5_1 < (l0.length : Int) := od
         obtain ⟨ad401,A401_7,c401_7,e401,hx401_0,hx401_1,hx401_2,hx401_3,hx401_4,hx401_5,hx401_6,hx401_7,hx401_8,hx401_9,hx401_10,hx401_11,hx401_12,hx401_13⟩ := at_T48 HR0.out x5_1 p401 q401
         cases e401
         replace hx401_0 := cb HB.out hx401_0
         replace hx401_1 := cb HB.out hx401_1
         replace hx401_2 := cb HB.out hx401_2
         replace hx401_3 := cb HB.out hx401_3
         replace hx401_4 := cb HB.out hx401_4
         replace hx401_5 := cb HB.out hx401_5
         replace hx401_6 := cb HB.out hx401_6
         replace hx401_7 := cb HB.out hx401_7
         replace hx401_8 := cb HB.out hx401_8
         replace hx401_9 := cb HB.out hx401_9
         replace hx401_10 := cb HB.out hx401_10
         replace hx401_11 := cb HB.out hx401_11
         replace hx401_12 := cb HB.out hx401_12
         replace hx401_13 := cb HB.out hx401_13
         replace p401 := eq_true p401
         replace q401 := eq_true q401
         go_wp2
         go_ret
         exact ⟨by first | rfl | (simp only [i64_w,i32_w] <;> rfl) | (simp [errW_none,errW_some] <;> rfl) | (simp [*,errW_none,errW_some] <;> rfl),bA⟩
       ·rw [if_neg c7] at H
        have c7b0 : (((rd_T48 l0 x5_1).f2) == (wrap64 ((wrap64 (x1_1 + 1)) + 1))) = false := beq_eq_false_iff_ne.mpr c7
        have c7b1 : (((rd_T48 l0 x5_1).f2) != (wrap64 ((wrap64 (x1_1 + 1)) + 1))) = true := bne_iff_ne.mpr c7
        obtain rfl := Option.some.inj H
        have p401 : 0 ≤ (x5_1 : Int) := od
        have q401 : x5_1 < (l0.length : Int) := od
        obtain ⟨ad401,A401_7,c401_7,e401,hx401_0,hx401_1,hx401_2,hx401_3,hx401_4,hx401_5,hx401_6,hx401_7,hx401_8,hx401_9,hx401_10,hx401_11,hx401_12,hx401_13⟩ := at_T48 HR0.out x5_1 p401 q401
        cases e401
        replace hx401_0 := cb HB.out hx401_0
        replace hx401_1 := cb HB.out hx401_1
        replace hx401_2 := cb HB.out hx401_2
        replace hx401_3 := cb HB.out hx401_3
        replace hx401_4 := cb HB.out hx401_4
        replace hx401_5 := cb HB.out hx401_5
        replace hx401_6 := cb HB.out hx401_6
        replace hx401_7 := cb HB.out hx401_7
        replace hx401_8 := cb HB.out hx401_8
        replace hx401_9 := cb HB.out hx401_9
        replace hx401_10 := cb HB.out hx401_10
        replace hx401_11 := cb HB.out hx401_11
        replace hx401_12 := cb HB.out hx401_12
        replace hx401_13 := cb HB.out hx401_13
        replace p401 := eq_true p401
        replace q401 := eq_true q401
        go_wp2
        go_ret
        exact ⟨by first | rfl | (simp only [i64_w,i32_w] <;> rfl) | (simp [errW_none,errW_some] <;> rfl) | (simp [*,errW_none,errW_some] <;> rfl),bA⟩
      ·rw [if_neg c6] at H
       have c6b0 : (((rd_T48 l0 x5_1).f1) == (wrap64 (x1_1 + 1))) = false := beq_eq_false_iff_ne.mpr c6
       have c6b1 : (((rd_T48 l0 x5_1).f1) != (wrap64 (x1_1 + 1))) = true := bne_iff_ne.mpr c6
       obtain rfl := Option.some.inj H
       have p401 : 0 ≤ (x5_1 : Int) := od
       have q401 : x5_1 < (l0.length : Int) := od
       obtain ⟨ad401,A401_7,c401_7,e401,hx401_0,hx401_1,hx401_2,hx401_3,hx401_4,hx401_5,hx401_6,hx401_7,hx401_8,hx401_9,hx401_10,hx401_11,hx401_12,hx401_13⟩ := at_T48 HR0.out x5_1 p401 q401
       cases e401
       replace hx401_0 := cb HB.out hx401_0
       replace hx401_1 := cb HB.out hx401_1
       replace hx401_2 := cb HB.out hx401_2
       replace hx401_3 := cb HB.out hx401_3
       replace hx401_4 := cb HB.out hx401_4
       replace hx401_5 := cb HB.out hx401_5
       replace hx401_6 := cb HB.out hx401_6
       replace hx401_7 := cb HB.out hx401_7
       replace hx401_8 := cb HB.out hx401_8
       replace hx401_9 := cb HB.out hx401_9
       replace hx401_10 := cb HB.out hx401_10
       replace hx401_11 := cb HB.out hx401_11
       replace hx401_12 := cb HB.out hx401_12
       replace hx401_13 := cb HB.out hx401_13
       replace p401 := eq_true p401
       replace q401 := eq_true q401
       go_wp2
       go_ret
       exact ⟨by first | rfl | (simp only [i64_w,i32_w] <;> rfl) | (simp [errW_none,errW_some] <;> rfl) | (simp [*,errW_none,errW_some] <;> rfl),bA⟩
     ·rw [if_neg c5] at H
      have c5b0 : (((rd_T48 l0 x5_1).f0) == x1_1) = false := beq_eq_false_iff_ne.mpr c5
      have c5b1 : (((rd_T48 l0 x5_1).f0) != x1_1) = true := bne_iff_ne.mpr c5
      obtain rfl := Option.some.inj H
      have p401 : 0 ≤ (x5_1 : Int) := od
      have q401 : x5_1 < (l0.length : Int) := od
      obtain ⟨ad401,A401_7,c401_7,e401,hx401_0,hx401_1,hx401_2,hx401_3,hx401_4,hx401_5,hx401_6,hx401_7,hx401_8,hx401_9,hx401_10,hx401_11,hx401_12,hx401_13⟩ := at_T48 HR0.out x5_1 p401 q401
      cases e401
      replace hx401_0 := cb HB.out hx401_0
      replace hx401_1 := cb HB.out hx401_1
      replace hx401_2 := cb HB.out hx401_2
      replace hx401_3 := cb HB.out hx401_3
      replace hx401_4 := cb HB.out hx401_4
      replace hx401_5 := cb HB.out hx401_5
      replace hx401_6 := cb HB.out hx401_6
      replace hx401_7 := cb HB.out hx401_7
      replace hx401_8 := cb HB.out hx401_8
      replace hx401_9 := cb HB.out hx401_9
      replace hx401_10 := cb HB.out hx401_10
      replace hx401_11 := cb HB.out hx401_11
      replace hx401_12 := cb HB.out hx401_12
      replace hx401_13 := cb HB.out hx401_13
      replace p401 := eq_true p401
      replace q401 := eq_true q401
      go_wp2
      go_ret
      exact ⟨by first | rfl | (simp only [i64_w,i32_w] <;> rfl) | (simp [errW_none,errW_some] <;> rfl) | (simp [*,errW_none,errW_some] <;> rfl),bA⟩
    ·rw [if_neg c4] at H
     exact absurd H (by simp)
   ·rw [if_neg c3] at H
    have c3b0 : decide (x5_1 < (l0.length : Int)) = false := decide_eq_false c3
    clear c3
    obtain rfl := Option.some.inj H
    go_wp2
    go_ret
    exact ⟨by first | rfl | (simp only [i64_w,i32_w] <;> rfl) | (simp [errW_none,errW_some] <;> rfl) | (simp [*,errW_none,errW_some] <;> rfl),bA⟩

end Go.Proofs.Ytmfichcgmofpkaa.XFnExactNewFleet
