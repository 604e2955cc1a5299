-- Printed by this session's own program wip/tools/xprint.py, which widens the kit's print. Not trusted: Lean checks it.
import Derived.Test.YtmfichcgmofpkaaXFnExactNewFleetx0
import Derived.Test.YtmfichcgmofpkaaXFnExactNewFleetx8
import Derived.Test.YtmfichcgmofpkaaXFnExactNewFleetx12
namespace Go.Proofs.Ytmfichcgmofpkaa.XFnExactNewFleet
open List (setIfInBounds_toArray set_cons_zero set_cons_succ)
open Go.RowKit Go.Proofs.YtmfichcgmofpkaaW.PrintWords Go.Proofs.YtmfichcgmofpkaaW.PrintLast Go.Proofs.YtmfichcgmofpkaaW.PrintMore
attribute [local go_sem] max2_int min2_int max_two min_two max_three min_three max_four min_four   -- for this text's walks alone
set_option linter.unusedVariables false
set_option linter.unusedSimpArgs false

/-! ### laws_heldWorkerS: function 25 -/
def laws_heldWorkerS.l0 : Nat → List (S44) → Int → Int → Option (Int)
 | 0,_,_,_ => none
 | k + 1,x0,x1,x5 => if x5 < (x0.length : Int) then (if 0 ≤ x5 then (if ((rd_T44 x0 x5).f0) = x1 then (if ((rd_T44 x0 x5).f1) = (wrap64 (x1 + 1)) then (if ((rd_T44 x0 x5).f2) = (wrap64 ((wrap64 (x1 + 1)) + 1)) then (if ((rd_T44 x0 x5).f3.f0) = (wrap64 ((wrap64 ((wrap64 (x1 + 1)) + 1)) + 1)) then (if ((rd_T44 x0 x5).f3.f1) = (wrap64 ((wrap64 ((wrap64 ((wrap64 (x1 + 1)) + 1)) + 1)) + 1)) then (if ((rd_T44 x0 x5).f3.f2) = (wrap64 ((wrap64 ((wrap64 ((wrap64 ((wrap64 (x1 + 1)) + 1)) + 1)) + 1)) + 1)) then (if ((rd_T44 x0 x5).f3.f3) = (wrap64 ((wrap64 ((wrap64 ((wrap64 ((wrap64 ((wrap64 (x1 + 1)) + 1)) + 1)) + 1)) + 1)) + 1)) then (if ((rd_T44 x0 x5).f3.f4) = (wrap64 ((wrap64 ((wrap64 ((wrap64 ((wrap64 ((wrap64 ((wrap64 (x1 + 1)) + 1)) + 1)) + 1)) + 1)) + 1)) + 1)) then ((laws_markText.f k (wrap64 ((wrap64 ((wrap64 ((wrap64 ((wrap64 ((wrap64 ((wrap64 ((wrap64 (x1 + 1)) + 1)) + 1)) + 1)) + 1)) + 1)) + 1)) + 1))).bind fun t383 => (if ((rd_T44 x0 x5).f3.f5).toList = t383.toList then ((laws_heldEntryS.f k ([] : List (S90)) (wrap64 ((wrap64 ((wrap64 ((wrap64 ((wrap64 ((wrap64 ((wrap64 ((wrap64 ((wrap64 (x1 + 1)) + 1)) + 1)) + 1)) + 1)) + 1)) + 1)) + 1)) + 1))).bind fun t385 => (if t385 < 0 then (some (-1)) else (if ((rd_T44 x0 x5).f5.f0) = t385 then (if ((rd_T44 x0 x5).f5.f1) = (wrap64 (t385 + 1)) then (if ((rd_T44 x0 x5).f5.f2) = (wrap64 ((wrap64 (t385 + 1)) + 1)) then (if ((rd_T44 x0 x5).f5.f3) = (wrap64 ((wrap64 ((wrap64 (t385 + 1)) + 1)) + 1)) then (if ((rd_T44 x0 x5).f5.f4) = (wrap64 ((wrap64 ((wrap64 ((wrap64 (t385 + 1)) + 1)) + 1)) + 1)) then (if ((rd_T44 x0 x5).f5.f5) = (wrap64 ((wrap64 ((wrap64 ((wrap64 ((wrap64 (t385 + 1)) + 1)) + 1)) + 1)) + 1)) then (laws_heldWorkerS.l0 k x0 (wrap64 ((wrap64 ((wrap64 ((wrap64 ((wrap64 ((wrap64 (t385 + 1)) + 1)) + 1)) + 1)) + 1)) + 1)) (wrap64 (x5 + 1))) else (some (-1))) else (some (-1))) else (some (-1))) else (some (-1))) else (some (-1))) else (some (-1))))) else (some (-1)))) else (some (-1))) else (some (-1))) else (some (-1))) else (some (-1))) else (some (-1))) else (some (-1))) else (some (-1))) else (some (-1))) else (none)) else (some x1)
def laws_heldWorkerS.f (k : Nat) (l0 : List (S44)) (a1 : Int) : Option (Int) := laws_heldWorkerS.l0 k l0 a1 0
theorem laws_heldWorkerS.mono_l : ∀ k,(∀ y0 y1 y2,LeO (laws_heldWorkerS.l0 k y0 y1 y2) (laws_heldWorkerS.l0 (k + 1) y0 y1 y2))
 | 0 => fun _ _ _ r h => by simp [laws_heldWorkerS.l0] at h
 | k + 1 => by
  have ih0 := laws_heldWorkerS.mono_l k
  ·intro y0 y1 y2
   unfold laws_heldWorkerS.l0
   repeat' first
   | (with_reducible first | exact ih0 .. | exact laws_heldEntryS.mono .. | exact laws_markText.mono .. | exact LeO.refl _ | exact LeO.none _ | refine LeO.ite ?_ ?_ | refine LeO.bind ?_ (fun _ => ?_))
   | exact LeO.none _ | refine LeO.ite ?_ ?_ | refine LeO.bind ?_ (fun _ => ?_)
theorem laws_heldWorkerS.mono : ∀ a0 a1 k,LeO (laws_heldWorkerS.f k a0 a1) (laws_heldWorkerS.f (k + 1) a0 a1) := by
 intro a0 a1 k
 have ih0 := laws_heldWorkerS.mono_l k
 unfold laws_heldWorkerS.f
 repeat' first
 | (with_reducible first | exact ih0 .. | exact laws_heldEntryS.mono .. | exact laws_markText.mono .. | exact LeO.refl _ | exact LeO.none _ | refine LeO.ite ?_ ?_ | refine LeO.bind ?_ (fun _ => ?_))
 | exact LeO.none _ | refine LeO.ite ?_ ?_ | refine LeO.bind ?_ (fun _ => ?_)
def laws_heldWorkerS.T28 : Bool × List (List Nat × List Nat) := (true,[([],[]),([],[]),([0,1],[0,1]),([2],[2]),([3],[3]),([4],[4]),([],[]),([6],[6]),([5,7],[5,7])])
def laws_heldWorkerS.B28 : List Nat := [0,0,3,7,15,31,0,64,255]
theorem laws_heldWorkerS.tab28 : rtab .any (opsOf Try.f25 28) = laws_heldWorkerS.T28 := by kernel_rfl
theorem laws_heldWorkerS.bits28 : waitsOk laws_heldWorkerS.T28.2 laws_heldWorkerS.B28 = true := by kernel_rfl
set_option maxHeartbeats 8000000 in
set_option maxRecDepth 100000 in
theorem laws_heldWorkerS.calls (k : Nat) (A0 : Option Addr) (c0 : Nat) (l0 : List (S44)) (a1 : Int) (r : Int) (w : World) (hr0 : Kd.C k44 w A0 l0.length l0) (hc0 : l0.length ≤ c0) (h : laws_heldWorkerS.f k l0 a1 = some r) :
  Calls Try.prog 25 #[.slice A0 l0.length c0,.int .i64 a1] w fun e w' => e = .returned (.int .i64 r) ∧ Below w.heap.size w w' := by
 have HR0 := Aside0.mk hr0
 have HC0 := Aside0.mk hc0
 clear hr0 hc0
 have HB := Aside0.mk (Below.refl w.heap.size w)
 have H : (laws_heldWorkerS.l0 k l0 a1 0) = some r := h
 clear h
 have H' := Aside0.mk H
 clear H
 go_enter Try.func25,Try.ntmps25
 go_wp2
 go_loopg [1,5] k (fun kq v1 v5 w' => ∃ (x1_1 : Int) (x5_1 : Int),v1 = .int .i64 x1_1 ∧ v5 = .int .i64 x5_1 ∧ Aside0 (laws_heldWorkerS.l0 kq l0 x1_1 x5_1 = some r) ∧ Aside0 (kq ≤ k) ∧ Aside0 (Below w.heap.size w w'))
 case atStart => exact ⟨(a1),(0),(by first | rfl | (simp; done) | (simp [*]; done)),(by first | rfl | (simp; done) | (simp [*]; done)),H',⟨Nat.le_refl _⟩,⟨bA⟩⟩
 case round =>
  clear H'
  try clear c2
  try clear p2
  obtain ⟨x1_1,x5_1,rfl,rfl,HA,HK1,HB⟩ := hrel
  cases gk with
  | zero => exact absurd HA.out (by simp [laws_heldWorkerS.l0])
  | succ k1 =>
   have H := HA.out
   clear HA
   simp only [laws_heldWorkerS.l0] at H
   by_cases c3 : x5_1 < (l0.length : Int)
   ·rw [if_pos c3] at H
    have c3b0 : decide (x5_1 < (l0.length : Int)) = true := decide_eq_true c3
    clear c3
    by_cases c4 : 0 ≤ x5_1
    ·rw [if_pos c4] at H
     have c4b0 : decide (0 ≤ x5_1) = true := decide_eq_true c4
     clear c4
     by_cases c5 : ((rd_T44 l0 x5_1).f0) = x1_1
     ·rw [if_pos c5] at H
      have c5b0 : (((rd_T44 l0 x5_1).f0) == x1_1) = true := beq_iff_eq.mpr c5
      have c5b1 : (((rd_T44 l0 x5_1).f0) != x1_1) = false := bne_eq_false_iff_eq.mpr c5
      clear c5
      by_cases c6 : ((rd_T44 l0 x5_1).f1) = (wrap64 (x1_1 + 1))
      ·rw [if_pos c6] at H
       have c6b0 : (((rd_T44 l0 x5_1).f1) == (wrap64 (x1_1 + 1))) = true := beq_iff_eq.mpr c6
       have c6b1 : (((rd_T44 l0 x5_1).f1) != (wrap64 (x1_1 + 1))) = false := bne_eq_false_iff_eq.mpr c6
       clear c6
       by_cases c7 : ((rd_T44 l0 x5_1).f2) = (wrap64 ((wrap64 (x1_1 + 1)) + 1))
       ·rw [if_pos c7] at H
        have c7b0 : (((rd_T44 l0 x5_1).f2) == (wrap64 ((wrap64 (x1_1 + 1)) + 1))) = true := beq_iff_eq.mpr c7
        have c7b1 : (((rd_T44 l0 x5_1).f2) != (wrap64 ((wrap64 (x1_1 + 1)) + 1))) = false := bne_eq_false_iff_eq.mpr c7
        clear c7
        by_cases c8 : ((rd_T44 l0 x5_1).f3.f0) = (wrap64 ((wrap64 ((wrap64 (x1_1 + 1)) + 1)) + 1))
        ·rw [if_pos c8] at H
         have c8b0 : (((rd_T44 l0 x5_1).f3.f0) == (wrap64 ((wrap64 ((wrap64 (x1_1 + 1)) + 1)) + 1))) = true := beq_iff_eq.mpr c8
         have c8b1 : (((rd_T44 l0 x5_1).f3.f0) != (wrap64 ((wrap64 ((wrap64 (x1_1 + 1)) + 1)) + 1))) = false := bne_eq_false_iff_eq.mpr c8
         clear c8
         by_cases c9 : ((rd_T44 l0 x5_1).f3.f1) = (wrap64 ((wrap64 ((wrap64 ((wrap64 (x1_1 + 1)) + 1)) + 1)) + 1))
         ·rw [if_pos c9] at H
          have c9b0 : (((rd_T44 l0 x5_1).f3.f1) == (wrap64 ((wrap64 ((wrap64 ((wrap64 (x1_1 + 1)) + 1)) + 1)) + 1))) = true := beq_iff_eq.mpr c9
          have c9b1 : (((rd_T44 l0 x5_1).f3.f1) != (wrap64 ((wrap64 ((wrap64 ((wrap64 (x1_1 + 1)) + 1)) + 1)) + 1))) = false := bne_eq_false_iff_eq.mpr c9
          clear c9
          by_cases c10 : ((rd_T44 l0 x5_1).f3.f2) = (wrap64 ((wrap64 ((wrap64 ((wrap64 ((wrap64 (x1_1 + 1)) + 1)) + 1)) + 1)) + 1))
          ·rw [if_pos c10] at H
           have c10b0 : (((rd_T44 l0 x5_1).f3.f2) == (wrap64 ((wrap64 ((wrap64 ((wrap64 ((wrap64 (x1_1 + 1)) + 1)) + 1)) + 1)) + 1))) = true := beq_iff_eq.mpr c10
           have c10b1 : (((rd_T44 l0 x5_1).f3.f2) != (wrap64 ((wrap64 ((wrap64 ((wrap64 ((wrap64 (x1_1 + 1)) + 1)) + 1)) + 1)) + 1))) = false := bne_eq_false_iff_eq.mpr c10
           clear c10
           by_cases c11 : ((rd_T44 l0 x5_1).f3.f3) = (wrap64 ((wrap64 ((wrap64 ((wrap64 ((wrap64 ((wrap64 (x1_1 + 1)) + 1)) + 1)) + 1)) + 1)) + 1))
           ·rw [if_pos c11] at H
            have c11b0 : (((rd_T44 l0 x5_1).f3.f3) == (wrap64 ((wrap64 ((wrap64 ((wrap64 ((wrap64 ((wrap64 (x1_1 + 1)) + 1)) + 1)) + 1)) + 1)) + 1))) = true := beq_iff_eq.mpr c11
            have c11b1 : (((rd_T44 l0 x5_1).f3.f3) != (wrap64 ((wrap64 ((wrap64 ((wrap64 ((wrap64 ((wrap64 (x1_1 + 1)) + 1)) + 1)) + 1)) + 1)) + 1))) = false := bne_eq_false_iff_eq.mpr c11
            clear c11
            by_cases c12 : ((rd_T44 l0 x5_1).f3.f4) = (wrap64 ((wrap64 ((wrap64 ((wrap64 ((wrap64 ((wrap64 ((wrap64 (x1_1 + 1)) + 1)) + 1)) + 1)) + 1)) + 1)) + 1))
            ·rw [if_pos c12] at H
             have c12b0 : (((rd_T44 l0 x5_1).f3.f4) == (wrap64 ((wrap64 ((wrap64 ((wrap64 ((wrap64 ((wrap64 ((wrap64 (x1_1 + 1)) + 1)) + 1)) + 1)) + 1)) + 1)) + 1))) = true := beq_iff_eq.mpr c12
             have c12b1 : (((rd_T44 l0 x5_1).f3.f4) != (wrap64 ((wrap64 ((wrap64 ((wrap64 ((wrap64 ((wrap64 ((wrap64 (x1_1 + 1)) + 1)) + 1)) + 1)) + 1)) + 1)) + 1))) = false := bne_eq_false_iff_eq.mpr c12
             clear c12
             replace H := Option.bind_eq_some_iff.mp H
             obtain ⟨t383,A130,H⟩ := H
             try dsimp only at H
             have A13 := Aside0.mk A130
             clear A130
             by_cases c14 : ((rd_T44 l0 x5_1).f3.f5).toList = t383.toList
             ·rw [if_pos c14] at H
              have c14b0 : (((rd_T44 l0 x5_1).f3.f5).toList == t383.toList) = true := beq_iff_eq.mpr c14
              have c14b1 : (((rd_T44 l0 x5_1).f3.f5).toList != t383.toList) = false := bne_eq_false_iff_eq.mpr c14
              clear c14
              replace H := Option.bind_eq_some_iff.mp H
              obtain ⟨t385,A150,H⟩ := H
              try dsimp only at H
              have A15 := Aside0.mk A150
              clear A150
              by_cases c16 : t385 < 0
              ·rw [if_pos c16] at H
               have c16b0 : decide (t385 < 0) = true := decide_eq_true c16
               clear c16
               obtain rfl := Option.some.inj H
               have p374 : 0 ≤ (x5_1 : Int) := od
               have q374 : x5_1 < (l0.length : Int) := od
               obtain ⟨ad374,A374_9,c374_9,e374,hx374_0,hx374_1,hx374_2,hx374_3,hx374_4,hx374_5,hx374_6,hx374_7,hx374_8,hx374_9,hx374_10,hx374_11,hx374_12,hx374_13,hx374_14,hx374_15⟩ := at_T44 HR0.out x5_1 p374 q374
               cases e374
               replace hx374_0 := cb HB.out hx374_0
               replace hx374_1 := cb HB.out hx374_1
               replace hx374_2 := cb HB.out hx374_2
               replace hx374_3 := cb HB.out hx374_3
               replace hx374_4 := cb HB.out hx374_4
               replace hx374_5 := cb HB.out hx374_5
               replace hx374_6 := cb HB.out hx374_6
               replace hx374_7 := cb HB.out hx374_7
               replace hx374_8 := cb HB.out hx374_8
               replace hx374_9 := cb HB.out hx374_9
               replace hx374_10 := cb HB.out hx374_10
               replace hx374_11 := cb HB.out hx374_11
               replace hx374_12 := cb HB.out hx374_12
               replace hx374_13 := cb HB.out hx374_13
               replace hx374_14 := cb HB.out hx374_14
               replace hx374_15 := cb HB.out hx374_15
               replace p374 := eq_true p374
               replace q374 := eq_true q374
               try go_wp2
               replace HB := Aside0.mk (below_drew1 HB.out)
               have p382 : 0 ≤ (x5_1 : Int) := od
               have q382 : x5_1 < (l0.length : Int) := od
               obtain ⟨ad382,A382_9,c382_9,e382,hx382_0,hx382_1,hx382_2,hx382_3,hx382_4,hx382_5,hx382_6,hx382_7,hx382_8,hx382_9,hx382_10,hx382_11,hx382_12,hx382_13,hx382_14,hx382_15⟩ := at_T44 HR0.out x5_1 p382 q382
               have hw382_15 := hx382_15
               have hw382_14 := hx382_14
               have hw382_13 := hx382_13
               have hw382_12 := hx382_12
               have hw382_11 := hx382_11
               have hw382_10 := hx382_10
               have hw382_9 := hx382_9
               have hw382_8 := hx382_8
               have hw382_7 := hx382_7
               have hw382_6 := hx382_6
               have hw382_5 := hx382_5
               have hw382_4 := hx382_4
               have hw382_3 := hx382_3
               have hw382_2 := hx382_2
               have hw382_1 := hx382_1
               have hw382_0 := hx382_0
               obtain rfl : ad374 = ad382 := (by injection e382)
               replace hx382_0 := cb HB.out hx382_0
               replace hx382_1 := cb HB.out hx382_1
               replace hx382_2 := cb HB.out hx382_2
               replace hx382_3 := cb HB.out hx382_3
               replace hx382_4 := cb HB.out hx382_4
               replace hx382_5 := cb HB.out hx382_5
               replace hx382_6 := cb HB.out hx382_6
               replace hx382_7 := cb HB.out hx382_7
               replace hx382_8 := cb HB.out hx382_8
               replace hx382_9 := cb HB.out hx382_9
               replace hx382_10 := cb HB.out hx382_10
               replace hx382_11 := cb HB.out hx382_11
               replace hx382_12 := cb HB.out hx382_12
               replace hx382_13 := cb HB.out hx382_13
               replace hx382_14 := cb HB.out hx382_14
               replace hx382_15 := cb HB.out hx382_15
               replace p382 := eq_true p382
               replace q382 := eq_true q382
               refine start_ (n:=9) (S:=fun w' => w'.cell? (ad374.add ((x5_1).toNat * 16)) = some (.int .i64 ((rd_T44 l0 x5_1).f0)) ∧ w'.cell? ⟨(ad374.add ((x5_1).toNat * 16)).block,(ad374.add ((x5_1).toNat * 16)).off + 1,none⟩ = some (.int .i64 ((rd_T44 l0 x5_1).f1)) ∧ w'.cell? ⟨(ad374.add ((x5_1).toNat * 16)).block,(ad374.add ((x5_1).toNat * 16)).off + 2,none⟩ = some (.int .i64 ((rd_T44 l0 x5_1).f2)) ∧ w'.cell? ⟨(ad374.add ((x5_1).toNat * 16)).block,(ad374.add ((x5_1).toNat * 16)).off + 3,none⟩ = some (.int .i64 ((rd_T44 l0 x5_1).f3.f0)) ∧ w'.cell? ⟨(ad374.add ((x5_1).toNat * 16)).block,(ad374.add ((x5_1).toNat * 16)).off + 4,none⟩ = some (.int .i64 ((rd_T44 l0 x5_1).f3.f1)) ∧ w'.cell? ⟨(ad374.add ((x5_1).toNat * 16)).block,(ad374.add ((x5_1).toNat * 16)).off + 5,none⟩ = some (.int .i64 ((rd_T44 l0 x5_1).f3.f2)) ∧ w'.cell? ⟨(ad374.add ((x5_1).toNat * 16)).block,(ad374.add ((x5_1).toNat * 16)).off + 6,none⟩ = some (.int .i64 ((rd_T44 l0 x5_1).f3.f3)) ∧ w'.cell? ⟨(ad374.add ((x5_1).toNat * 16)).block,(ad374.add ((x5_1).toNat * 16)).off + 7,none⟩ = some (.int .i64 ((rd_T44 l0 x5_1).f3.f4)) ∧ w'.cell? ⟨(ad374.add ((x5_1).toNat * 16)).block,(ad374.add ((x5_1).toNat * 16)).off + 8,none⟩ = some (.string ((rd_T44 l0 x5_1).f3.f5)) ∧ w'.cell? ⟨(ad374.add ((x5_1).toNat * 16)).block,(ad374.add ((x5_1).toNat * 16)).off + 9,none⟩ = some (.slice A382_9 0 c382_9) ∧ w'.cell? ⟨(ad374.add ((x5_1).toNat * 16)).block,(ad374.add ((x5_1).toNat * 16)).off + 10,none⟩ = some (.int .i64 ((rd_T44 l0 x5_1).f5.f0)) ∧ w'.cell? ⟨(ad374.add ((x5_1).toNat * 16)).block,(ad374.add ((x5_1).toNat * 16)).off + 11,none⟩ = some (.int .i64 ((rd_T44 l0 x5_1).f5.f1)) ∧ w'.cell? ⟨(ad374.add ((x5_1).toNat * 16)).block,(ad374.add ((x5_1).toNat * 16)).off + 12,none⟩ = some (.int .i64 ((rd_T44 l0 x5_1).f5.f2)) ∧ w'.cell? ⟨(ad374.add ((x5_1).toNat * 16)).block,(ad374.add ((x5_1).toNat * 16)).off + 13,none⟩ = some (.int .i64 ((rd_T44 l0 x5_1).f5.f3)) ∧ w'.cell? ⟨(ad374.add ((x5_1).toNat * 16)).block,(ad374.add ((x5_1).toNat * 16)).off + 14,none⟩ = some (.int .i64 ((rd_T44 l0 x5_1).f5.f4)) ∧ w'.cell? ⟨(ad374.add ((x5_1).toNat * 16)).block,(ad374.add ((x5_1).toNat * 16)).off + 15,none⟩ = some (.int .i64 ((rd_T44 l0 x5_1).f5.f5))) (ds := []) (bm 9 0) (by kernel_rfl) rfl rfl ⟨(cb HB.out hw382_0),(cb HB.out hw382_1),(cb HB.out hw382_2),(cb HB.out hw382_3),(cb HB.out hw382_4),(cb HB.out hw382_5),(cb HB.out hw382_6),(cb HB.out hw382_7),(cb HB.out hw382_8),(cb HB.out hw382_9),(cb HB.out hw382_10),(cb HB.out hw382_11),(cb HB.out hw382_12),(cb HB.out hw382_13),(cb HB.out hw382_14),(cb HB.out hw382_15)⟩ (fun hHeld => ?_); refine with_tabW laws_heldWorkerS.tab28 laws_heldWorkerS.bits28 (fun HT_ HW_ => ?_)
               generalize wr.drew = w17 at HB hx382_0 hx382_1 hx382_10 hx382_11 hx382_12 hx382_13 hx382_14 hx382_15 hx382_2 hx382_3 hx382_4 hx382_5 hx382_6 hx382_7 hx382_8 hx382_9 hHeld ⊢
               refine pV_ 0 89 (bm 9 1) HT_.out ?_
               refine pV_ 1 90 (bm 9 3) HT_.out ?_
               refine pV_ 2 91 (bm 9 7) HT_.out ?_
               refine pV_ 3 92 (bm 9 15) HT_.out ?_
               refine pV_ 4 93 (bm 9 31) HT_.out ?_
               refine pV_ 6 95 (bm 9 95) HT_.out ?_
               refine tk 5 94 (bm 9 127) HT_.out HW_.out hHeld ?_
               refine one_ (i:=7) (N:=some 96) (bm 9 255) rfl rfl (one_of HT_.out (by kernel_rfl)) (by decide) (fun K hK => ?_)
               refine goes_ Try.func41 (by kernel_rfl) rfl #[.int .i64 (wrap64 ((wrap64 ((wrap64 ((wrap64 ((wrap64 ((wrap64 ((wrap64 ((wrap64 (x1_1 + 1)) + 1)) + 1)) + 1)) + 1)) + 1)) + 1)) + 1))] (by rfl) rfl rfl mA ?_
               with_reducible refine (laws_markText.calls k1 (wrap64 ((wrap64 ((wrap64 ((wrap64 ((wrap64 ((wrap64 ((wrap64 ((wrap64 (x1_1 + 1)) + 1)) + 1)) + 1)) + 1)) + 1)) + 1)) + 1)) t383 _ A13.out).mono ?_
               rintro e w18 ⟨rfl,hb⟩
               refine ⟨_,rfl,?_⟩
               replace HB := bsA hb
               clear hb
               refine hK.out _ _ ⟨(cb HB.out hw382_0),(cb HB.out hw382_1),(cb HB.out hw382_2),(cb HB.out hw382_3),(cb HB.out hw382_4),(cb HB.out hw382_5),(cb HB.out hw382_6),(cb HB.out hw382_7),(cb HB.out hw382_8),(cb HB.out hw382_9),(cb HB.out hw382_10),(cb HB.out hw382_11),(cb HB.out hw382_12),(cb HB.out hw382_13),(cb HB.out hw382_14),(cb HB.out hw382_15)⟩ (fun hHeld => ?_)
               clear hK K
               refine nw 96 ?_
               refine pV_ 8 97 (bm 9 511) HT_.out ?_
               refine done_ (done_of HT_.out (by kernel_rfl)) ?_
               have p384 : 0 ≤ (x5_1 : Int) := od
               have q384 : x5_1 < (l0.length : Int) := od
               obtain ⟨ad384,A384_9,c384_9,e384,hx384_0,hx384_1,hx384_2,hx384_3,hx384_4,hx384_5,hx384_6,hx384_7,hx384_8,hx384_9,hx384_10,hx384_11,hx384_12,hx384_13,hx384_14,hx384_15⟩ := at_T44 HR0.out x5_1 p384 q384
               obtain rfl : ad374 = ad384 := (by injection e384)
               have ea_ := Option.some.inj (hw382_9.symm.trans hx384_9)
               obtain ⟨eb_,ec_⟩ := kEmp_inj ea_
               subst eb_
               subst ec_
               clear ea_
               replace hx384_0 := cb HB.out hx384_0
               replace hx384_1 := cb HB.out hx384_1
               replace hx384_2 := cb HB.out hx384_2
               replace hx384_3 := cb HB.out hx384_3
               replace hx384_4 := cb HB.out hx384_4
               replace hx384_5 := cb HB.out hx384_5
               replace hx384_6 := cb HB.out hx384_6
               replace hx384_7 := cb HB.out hx384_7
               replace hx384_8 := cb HB.out hx384_8
               replace hx384_9 := cb HB.out hx384_9
               replace hx384_10 := cb HB.out hx384_10
               replace hx384_11 := cb HB.out hx384_11
               replace hx384_12 := cb HB.out hx384_12
               replace hx384_13 := cb HB.out hx384_13
               replace hx384_14 := cb HB.out hx384_14
               replace hx384_15 := cb HB.out hx384_15
               replace p384 := eq_true p384
               replace q384 := eq_true q384
               try go_wp2_with (first | ((with_reducible refine gate_callee (f:=44) rfl ?_); refine goesL_ (some 106) rfl rfl Try.func44 (by kernel_rfl) rfl #[.slice A382_9 0 c382_9,.int .i64 (wrap64 ((wrap64 ((wrap64 ((wrap64 ((wrap64 ((wrap64 ((wrap64 ((wrap64 ((wrap64 (x1_1 + 1)) + 1)) + 1)) + 1)) + 1)) + 1)) + 1)) + 1)) + 1))] rfl mA ?_; (refine (laws_heldEntryS.calls k1 _ _ ([] : List (S90)) (wrap64 ((wrap64 ((wrap64 ((wrap64 ((wrap64 ((wrap64 ((wrap64 ((wrap64 ((wrap64 (x1_1 + 1)) + 1)) + 1)) + 1)) + 1)) + 1)) + 1)) + 1)) + 1)) t385 _ ?side1 ?side2 A15.out).mono ?_); (case side1 => exact kEmp_C _ _ _); (case side2 => exact Nat.zero_le _); rintro e w19 ⟨rfl,hb⟩; refine ⟨_,rfl,?_⟩; replace HB := bsA hb; clear hb))
               go_ret
               exact ⟨by first | rfl | (simp only [i64_w,i32_w] <;> rfl) | (simp [errW_none,errW_some] <;> rfl) | (simp [*,errW_none,errW_some] <;> rfl),bA⟩
              ·rw [if_neg c16] at H
               have c16b0 : decide (t385 < 0) = false := decide_eq_false c16
               clear c16
               by_cases c20 : ((rd_T44 l0 x5_1).f5.f0) = t385
               ·rw [if_pos c20] at H
                have c20b0 : (((rd_T44 l0 x5_1).f5.f0) == t385) = true := beq_iff_eq.mpr c20
                have c20b1 : (((rd_T44 l0 x5_1).f5.f0) != t385) = false := bne_eq_false_iff_eq.mpr c20
                clear c20
                by_cases c21 : ((rd_T44 l0 x5_1).f5.f1) = (wrap64 (t385 + 1))
                ·rw [if_pos c21] at H
                 have c21b0 : (((rd_T44 l0 x5_1).f5.f1) == (wrap64 (t385 + 1))) = true := beq_iff_eq.mpr c21
                 have c21b1 : (((rd_T44 l0 x5_1).f5.f1) != (wrap64 (t385 + 1))) = false := bne_eq_false_iff_eq.mpr c21
                 clear c21
                 by_cases c22 : ((rd_T44 l0 x5_1).f5.f2) = (wrap64 ((wrap64 (t385 + 1)) + 1))
                 ·rw [if_pos c22] at H
                  have c22b0 : (((rd_T44 l0 x5_1).f5.f2) == (wrap64 ((wrap64 (t385 + 1)) + 1))) = true := beq_iff_eq.mpr c22
                  have c22b1 : (((rd_T44 l0 x5_1).f5.f2) != (wrap64 ((wrap64 (t385 + 1)) + 1))) = false := bne_eq_false_iff_eq.mpr c22
                  clear c22
                  by_cases c23 : ((rd_T44 l0 x5_1).f5.f3) = (wrap64 ((wrap64 ((wrap64 (t385 + 1)) + 1)) + 1))
                  ·rw [if_pos c23] at H
                   have c23b0 : (((rd_T44 l0 x5_1).f5.f3) == (wrap64 ((wrap64 ((wrap64 (t385 + 1)) + 1)) + 1))) = true := beq_iff_eq.mpr c23
                   have c23b1 : (((rd_T44 l0 x5_1).f5.f3) != (wrap64 ((wrap64 ((wrap64 (t385 + 1)) + 1)) + 1))) = false := bne_eq_false_iff_eq.mpr c23
                   clear c23
                   by_cases c24 : ((rd_T44 l0 x5_1).f5.f4) = (wrap64 ((wrap64 ((wrap64 ((wrap64 (t385 + 1)) + 1)) + 1)) + 1))
                   ·rw [if_pos c24] at H
                    have c24b0 : (((rd_T44 l0 x5_1).f5.f4) == (wrap64 ((wrap64 ((wrap64 ((wrap64 (t385 + 1)) + 1)) + 1)) + 1))) = true := beq_iff_eq.mpr c24
                    have c24b1 : (((rd_T44 l0 x5_1).f5.f4) != (wrap64 ((wrap64 ((wrap64 ((wrap64 (t385 + 1)) + 1)) + 1)) + 1))) = false := bne_eq_false_iff_eq.mpr c24
                    clear c24
                    by_cases c25 : ((rd_T44 l0 x5_1).f5.f5) = (wrap64 ((wrap64 ((wrap64 ((wrap64 ((wrap64 (t385 + 1)) + 1)) + 1)) + 1)) + 1))
                    ·rw [if_pos c25] at H
                     have c25b0 : (((rd_T44 l0 x5_1).f5.f5) == (wrap64 ((wrap64 ((wrap64 ((wrap64 ((wrap64 (t385 + 1)) + 1)) + 1)) + 1)) + 1))) = true := beq_iff_eq.mpr c25
                     have c25b1 : (((rd_T44 l0 x5_1).f5.f5) != (wrap64 ((wrap64 ((wrap64 ((wrap64 ((wrap64 (t385 + 1)) + 1)) + 1)) + 1)) + 1))) = false := bne_eq_false_iff_eq.mpr c25
                     clear c25
                     have H' := Aside0.mk H
                     clear H
                     have p374 : 0 ≤ (x5_1 : Int) := od
                     have q374 : x5_1 < (l0.length : Int) := od
                     obtain ⟨ad374,A374_9,c374_9,e374,hx374_0,hx374_1,hx374_2,hx374_3,hx374_4,hx374_5,hx374_6,hx374_7,hx374_8,hx374_9,hx374_10,hx374_11,hx374_12,hx374_13,hx374_14,hx374_15⟩ := at_T44 HR0.out x5_1 p374 q374
                     cases e374
                     replace hx374_0 := cb HB.out hx374_0
                     replace hx374_1 := cb HB.out hx374_1
                     replace hx374_2 := cb HB.out hx374_2
                     replace hx374_3 := cb HB.out hx374_3
                     replace hx374_4 := cb HB.out hx374_4
                     replace hx374_5 := cb HB.out hx374_5
                     replace hx374_6 := cb HB.out hx374_6
                     replace hx374_7 := cb HB.out hx374_7
                     replace hx374_8 := cb HB.out hx374_8
                     replace hx374_9 := cb HB.out hx374_9
                     replace hx374_10 := cb HB.out hx374_10
                     replace hx374_11 := cb HB.out hx374_11
                     replace hx374_12 := cb HB.out hx374_12
                     replace hx374_13 := cb HB.out hx374_13
                     replace hx374_14 := cb HB.out hx374_14
                     replace hx374_15 := cb HB.out hx374_15
                     replace p374 := eq_true p374
                     replace q374 := eq_true q374
                     try go_wp2
                     replace HB := Aside0.mk (below_drew1 HB.out)
                     have p382 : 0 ≤ (x5_1 : Int) := od
                     have q382 : x5_1 < (l0.length : Int) := od
                     obtain ⟨ad382,A382_9,c382_9,e382,hx382_0,hx382_1,hx382_2,hx382_3,hx382_4,hx382_5,hx382_6,hx382_7,hx382_8,hx382_9,hx382_10,hx382_11,hx382_12,hx382_13,hx382_14,hx382_15⟩ := at_T44 HR0.out x5_1 p382 q382
                     have hw382_15 := hx382_15
                     have hw382_14 := hx382_14
                     have hw382_13 := hx382_13
                     have hw382_12 := hx382_12
                     have hw382_11 := hx382_11
                     have hw382_10 := hx382_10
                     have hw382_9 := hx382_9
                     have hw382_8 := hx382_8
                     have hw382_7 := hx382_7
                     have hw382_6 := hx382_6
                     have hw382_5 := hx382_5
                     have hw382_4 := hx382_4
                     have hw382_3 := hx382_3
                     have hw382_2 := hx382_2
                     have hw382_1 := hx382_1
                     have hw382_0 := hx382_0
                     obtain rfl : ad374 = ad382 := (by injection e382)
                     replace hx382_0 := cb HB.out hx382_0
                     replace hx382_1 := cb HB.out hx382_1
                     replace hx382_2 := cb HB.out hx382_2
                     replace hx382_3 := cb HB.out hx382_3
                     replace hx382_4 := cb HB.out hx382_4
                     replace hx382_5 := cb HB.out hx382_5
                     replace hx382_6 := cb HB.out hx382_6
                     replace hx382_7 := cb HB.out hx382_7
                     replace hx382_8 := cb HB.out hx382_8
                     replace hx382_9 := cb HB.out hx382_9
                     replace hx382_10 := cb HB.out hx382_10
                     replace hx382_11 := cb HB.out hx382_11
                     replace hx382_12 := cb HB.out hx382_12
                     replace hx382_13 := cb HB.out hx382_13
                     replace hx382_14 := cb HB.out hx382_14
                     replace hx382_15 := cb HB.out hx382_15
                     replace p382 := eq_true p382
                     replace q382 := eq_true q382
                     refine start_ (n:=9) (S:=fun w' => w'.cell? (ad374.add ((x5_1).toNat * 16)) = some (.int .i64 ((rd_T44 l0 x5_1).f0)) ∧ w'.cell? ⟨(ad374.add ((x5_1).toNat * 16)).block,(ad374.add ((x5_1).toNat * 16)).off + 1,none⟩ = some (.int .i64 ((rd_T44 l0 x5_1).f1)) ∧ w'.cell? ⟨(ad374.add ((x5_1).toNat * 16)).block,(ad374.add ((x5_1).toNat * 16)).off + 2,none⟩ = some (.int .i64 ((rd_T44 l0 x5_1).f2)) ∧ w'.cell? ⟨(ad374.add ((x5_1).toNat * 16)).block,(ad374.add ((x5_1).toNat * 16)).off + 3,none⟩ = some (.int .i64 ((rd_T44 l0 x5_1).f3.f0)) ∧ w'.cell? ⟨(ad374.add ((x5_1).toNat * 16)).block,(ad374.add ((x5_1).toNat * 16)).off + 4,none⟩ = some (.int .i64 ((rd_T44 l0 x5_1).f3.f1)) ∧ w'.cell? ⟨(ad374.add ((x5_1).toNat * 16)).block,(ad374.add ((x5_1).toNat * 16)).off + 5,none⟩ = some (.int .i64 ((rd_T44 l0 x5_1).f3.f2)) ∧ w'.cell? ⟨(ad374.add ((x5_1).toNat * 16)).block,(ad374.add ((x5_1).toNat * 16)).off + 6,none⟩ = some (.int .i64 ((rd_T44 l0 x5_1).f3.f3)) ∧ w'.cell? ⟨(ad374.add ((x5_1).toNat * 16)).block,(ad374.add ((x5_1).toNat * 16)).off + 7,none⟩ = some (.int .i64 ((rd_T44 l0 x5_1).f3.f4)) ∧ w'.cell? ⟨(ad374.add ((x5_1).toNat * 16)).block,(ad374.add ((x5_1).toNat * 16)).off + 8,none⟩ = some (.string ((rd_T44 l0 x5_1).f3.f5)) ∧ w'.cell? ⟨(ad374.add ((x5_1).toNat * 16)).block,(ad374.add ((x5_1).toNat * 16)).off + 9,none⟩ = some (.slice A382_9 0 c382_9) ∧ w'.cell? ⟨(ad374.add ((x5_1).toNat * 16)).block,(ad374.add ((x5_1).toNat * 16)).off + 10,none⟩ = some (.int .i64 ((rd_T44 l0 x5_1).f5.f0)) ∧ w'.cell? ⟨(ad374.add ((x5_1).toNat * 16)).block,(ad374.add ((x5_1).toNat * 16)).off + 11,none⟩ = some (.int .i64 ((rd_T44 l0 x5_1).f5.f1)) ∧ w'.cell? ⟨(ad374.add ((x5_1).toNat * 16)).block,(ad374.add ((x5_1).toNat * 16)).off + 12,none⟩ = some (.int .i64 ((rd_T44 l0 x5_1).f5.f2)) ∧ w'.cell? ⟨(ad374.add ((x5_1).toNat * 16)).block,(ad374.add ((x5_1).toNat * 16)).off + 13,none⟩ = some (.int .i64 ((rd_T44 l0 x5_1).f5.f3)) ∧ w'.cell? ⟨(ad374.add ((x5_1).toNat * 16)).block,(ad374.add ((x5_1).toNat * 16)).off + 14,none⟩ = some (.int .i64 ((rd_T44 l0 x5_1).f5.f4)) ∧ w'.cell? ⟨(ad374.add ((x5_1).toNat * 16)).block,(ad374.add ((x5_1).toNat * 16)).off + 15,none⟩ = some (.int .i64 ((rd_T44 l0 x5_1).f5.f5))) (ds := []) (bm 9 0) (by kernel_rfl) rfl rfl ⟨(cb HB.out hw382_0),(cb HB.out hw382_1),(cb HB.out hw382_2),(cb HB.out hw382_3),(cb HB.out hw382_4),(cb HB.out hw382_5),(cb HB.out hw382_6),(cb HB.out hw382_7),(cb HB.out hw382_8),(cb HB.out hw382_9),(cb HB.out hw382_10),(cb HB.out hw382_11),(cb HB.out hw382_12),(cb HB.out hw382_13),(cb HB.out hw382_14),(cb HB.out hw382_15)⟩ (fun hHeld => ?_); refine with_tabW laws_heldWorkerS.tab28 laws_heldWorkerS.bits28 (fun HT_ HW_ => ?_)
                     generalize wr.drew = w26 at HB hx382_0 hx382_1 hx382_10 hx382_11 hx382_12 hx382_13 hx382_14 hx382_15 hx382_2 hx382_3 hx382_4 hx382_5 hx382_6 hx382_7 hx382_8 hx382_9 hHeld ⊢
                     refine pV_ 0 89 (bm 9 1) HT_.out ?_
                     refine pV_ 1 90 (bm 9 3) HT_.out ?_
                     refine pV_ 2 91 (bm 9 7) HT_.out ?_
                     refine pV_ 3 92 (bm 9 15) HT_.out ?_
                     refine pV_ 4 93 (bm 9 31) HT_.out ?_
                     refine pV_ 6 95 (bm 9 95) HT_.out ?_
                     refine tk 5 94 (bm 9 127) HT_.out HW_.out hHeld ?_
                     refine one_ (i:=7) (N:=some 96) (bm 9 255) rfl rfl (one_of HT_.out (by kernel_rfl)) (by decide) (fun K hK => ?_)
                     refine goes_ Try.func41 (by kernel_rfl) rfl #[.int .i64 (wrap64 ((wrap64 ((wrap64 ((wrap64 ((wrap64 ((wrap64 ((wrap64 ((wrap64 (x1_1 + 1)) + 1)) + 1)) + 1)) + 1)) + 1)) + 1)) + 1))] (by rfl) rfl rfl mA ?_
                     with_reducible refine (laws_markText.calls k1 (wrap64 ((wrap64 ((wrap64 ((wrap64 ((wrap64 ((wrap64 ((wrap64 ((wrap64 (x1_1 + 1)) + 1)) + 1)) + 1)) + 1)) + 1)) + 1)) + 1)) t383 _ A13.out).mono ?_
                     rintro e w27 ⟨rfl,hb⟩
                     refine ⟨_,rfl,?_⟩
                     replace HB := bsA hb
                     clear hb
                     refine hK.out _ _ ⟨(cb HB.out hw382_0),(cb HB.out hw382_1),(cb HB.out hw382_2),(cb HB.out hw382_3),(cb HB.out hw382_4),(cb HB.out hw382_5),(cb HB.out hw382_6),(cb HB.out hw382_7),(cb HB.out hw382_8),(cb HB.out hw382_9),(cb HB.out hw382_10),(cb HB.out hw382_11),(cb HB.out hw382_12),(cb HB.out hw382_13),(cb HB.out hw382_14),(cb HB.out hw382_15)⟩ (fun hHeld => ?_)
                     clear hK K
                     refine nw 96 ?_
                     refine pV_ 8 97 (bm 9 511) HT_.out ?_
                     refine done_ (done_of HT_.out (by kernel_rfl)) ?_
                     have p384 : 0 ≤ (x5_1 : Int) := od
                     have q384 : x5_1 < (l0.length : Int) := od
                     obtain ⟨ad384,A384_9,c384_9,e384,hx384_0,hx384_1,hx384_2,hx384_3,hx384_4,hx384_5,hx384_6,hx384_7,hx384_8,hx384_9,hx384_10,hx384_11,hx384_12,hx384_13,hx384_14,hx384_15⟩ := at_T44 HR0.out x5_1 p384 q384
                     obtain rfl : ad374 = ad384 := (by injection e384)
                     have ea_ := Option.some.inj (hw382_9.symm.trans hx384_9)
                     obtain ⟨eb_,ec_⟩ := kEmp_inj ea_
                     subst eb_
                     subst ec_
                     clear ea_
                     replace hx384_0 := cb HB.out hx384_0
                     replace hx384_1 := cb HB.out hx384_1
                     replace hx384_2 := cb HB.out hx384_2
                     replace hx384_3 := cb HB.out hx384_3
                     replace hx384_4 := cb HB.out hx384_4
                     replace hx384_5 := cb HB.out hx384_5
                     replace hx384_6 := cb HB.out hx384_6
                     replace hx384_7 := cb HB.out hx384_7
                     replace hx384_8 := cb HB.out hx384_8
                     replace hx384_9 := cb HB.out hx384_9
                     replace hx384_10 := cb HB.out hx384_10
                     replace hx384_11 := cb HB.out hx384_11
                     replace hx384_12 := cb HB.out hx384_12
                     replace hx384_13 := cb HB.out hx384_13
                     replace hx384_14 := cb HB.out hx384_14
                     replace hx384_15 := cb HB.out hx384_15
                     replace p384 := eq_true p384
                     replace q384 := eq_true q384
                     try go_wp2_with (first | ((with_reducible refine gate_callee (f:=44) rfl ?_); refine goesL_ (some 106) rfl rfl Try.func44 (by kernel_rfl) rfl #[.slice A382_9 0 c382_9,.int .i64 (wrap64 ((wrap64 ((wrap64 ((wrap64 ((wrap64 ((wrap64 ((wrap64 ((wrap64 ((wrap64 (x1_1 + 1)) + 1)) + 1)) + 1)) + 1)) + 1)) + 1)) + 1)) + 1))] rfl mA ?_; (refine (laws_heldEntryS.calls k1 _ _ ([] : List (S90)) (wrap64 ((wrap64 ((wrap64 ((wrap64 ((wrap64 ((wrap64 ((wrap64 ((wrap64 ((wrap64 (x1_1 + 1)) + 1)) + 1)) + 1)) + 1)) + 1)) + 1)) + 1)) + 1)) t385 _ ?side1 ?side2 A15.out).mono ?_); (case side1 => exact kEmp_C _ _ _); (case side2 => exact Nat.zero_le _); rintro e w28 ⟨rfl,hb⟩; refine ⟨_,rfl,?_⟩; replace HB := bsA hb; clear hb; have p386 : 0 ≤ (x5_1 : Int) := od; have q386 : x5_1 < (l0.length : Int) := od; obtain ⟨ad386,A386_9,c386_9,e386,hx386_0,hx386_1,hx386_2,hx386_3,hx386_4,hx386_5,hx386_6,hx386_7,hx386_8,hx386_9,hx386_10,hx386_11,hx386_12,hx386_13,hx386_14,hx386_15⟩ := at_T44 HR0.out x5_1 p386 q386; obtain rfl : ad374 = ad386 := (by injection e386); have ea_ := Option.some.inj (hw382_9.symm.trans hx386_9); obtain ⟨eb_,ec_⟩ := kEmp_inj ea_; subst eb_; subst ec_; clear ea_; replace hx386_0 := cb HB.out hx386_0; replace hx386_1 := cb HB.out hx386_1; replace hx386_2 := cb HB.out hx386_2; replace hx386_3 := cb HB.out hx386_3; replace hx386_4 := cb HB.out hx386_4; replace hx386_5 := cb HB.out hx386_5; replace hx386_6 := cb HB.out hx386_6; replace hx386_7 := cb HB.out hx386_7; replace hx386_8 := cb HB.out hx386_8; replace hx386_9 := cb HB.out hx386_9; replace hx386_10 := cb HB.out hx386_10; replace hx386_11 := cb HB.out hx386_11; replace hx386_12 := cb HB.out hx386_12; replace hx386_13 := cb HB.out hx386_13; replace hx386_14 := cb HB.out hx386_14; replace hx386_15 := cb HB.out hx386_15; replace p386 := eq_true p386; replace q386 := eq_true q386))
                     go_roundg k1
                     case measure => have := HK1.out; omega
                     case rel => exact ⟨(wrap64 ((wrap64 ((wrap64 ((wrap64 ((wrap64 ((wrap64 (t385 + 1)) + 1)) + 1)) + 1)) + 1)) + 1)),(wrap64 (x5_1 + 1)),(by first | rfl | (simp; done) | (simp [*]; done)),(by first | rfl | (simp; done) | (simp [*]; done)),H',⟨by have := HK1.out; omega⟩,⟨bA⟩⟩
                    ·rw [if_neg c25] at H
                     have c25b0 : (((rd_T44 l0 x5_1).f5.f5) == (wrap64 ((wrap64 ((wrap64 ((wrap64 ((wrap64 (t385 + 1)) + 1)) + 1)) + 1)) + 1))) = false := beq_eq_false_iff_ne.mpr c25
                     have c25b1 : (((rd_T44 l0 x5_1).f5.f5) != (wrap64 ((wrap64 ((wrap64 ((wrap64 ((wrap64 (t385 + 1)) + 1)) + 1)) + 1)) + 1))) = true := bne_iff_ne.mpr c25
                     obtain rfl := Option.some.inj H
                     have p374 : 0 ≤ (x5_1 : Int) := od
                     have q374 : x5_1 < (l0.length : Int) := od
                     obtain ⟨ad374,A374_9,c374_9,e374,hx374_0,hx374_1,hx374_2,hx374_3,hx374_4,hx374_5,hx374_6,hx374_7,hx374_8,hx374_9,hx374_10,hx374_11,hx374_12,hx374_13,hx374_14,hx374_15⟩ := at_T44 HR0.out x5_1 p374 q374
                     cases e374
                     replace hx374_0 := cb HB.out hx374_0
                     replace hx374_1 := cb HB.out hx374_1
                     replace hx374_2 := cb HB.out hx374_2
                     replace hx374_3 := cb HB.out hx374_3
                     replace hx374_4 := cb HB.out hx374_4
                     replace hx374_5 := cb HB.out hx374_5
                     replace hx374_6 := cb HB.out hx374_6
                     replace hx374_7 := cb HB.out hx374_7
                     replace hx374_8 := cb HB.out hx374_8
                     replace hx374_9 := cb HB.out hx374_9
                     replace hx374_10 := cb HB.out hx374_10
                     replace hx374_11 := cb HB.out hx374_11
                     replace hx374_12 := cb HB.out hx374_12
                     replace hx374_13 := cb HB.out hx374_13
                     replace hx374_14 := cb HB.out hx374_14
                     replace hx374_15 := cb HB.out hx374_15
                     replace p374 := eq_true p374
                     replace q374 := eq_true q374
                     try go_wp2
                     replace HB := Aside0.mk (below_drew1 HB.out)
                     have p382 : 0 ≤ (x5_1 : Int) := od
                     have q382 : x5_1 < (l0.length : Int) := od
                     obtain ⟨ad382,A382_9,c382_9,e382,hx382_0,hx382_1,hx382_2,hx382_3,hx382_4,hx382_5,hx382_6,hx382_7,hx382_8,hx382_9,hx382_10,hx382_11,hx382_12,hx382_13,hx382_14,hx382_15⟩ := at_T44 HR0.out x5_1 p382 q382
                     have hw382_15 := hx382_15
                     have hw382_14 := hx382_14
                     have hw382_13 := hx382_13
                     have hw382_12 := hx382_12
                     have hw382_11 := hx382_11
                     have hw382_10 := hx382_10
                     have hw382_9 := hx382_9
                     have hw382_8 := hx382_8
                     have hw382_7 := hx382_7
                     have hw382_6 := hx382_6
                     have hw382_5 := hx382_5
                     have hw382_4 := hx382_4
                     have hw382_3 := hx382_3
                     have hw382_2 := hx382_2
                     have hw382_1 := hx382_1
                     have hw382_0 := hx382_0
                     obtain rfl : ad374 = ad382 := (by injection e382)
                     replace hx382_0 := cb HB.out hx382_0
                     replace hx382_1 := cb HB.out hx382_1
                     replace hx382_2 := cb HB.out hx382_2
                     replace hx382_3 := cb HB.out hx382_3
                     replace hx382_4 := cb HB.out hx382_4
                     replace hx382_5 := cb HB.out hx382_5
                     replace hx382_6 := cb HB.out hx382_6
                     replace hx382_7 := cb HB.out hx382_7
                     replace hx382_8 := cb HB.out hx382_8
                     replace hx382_9 := cb HB.out hx382_9
                     replace hx382_10 := cb HB.out hx382_10
                     replace hx382_11 := cb HB.out hx382_11
                     replace hx382_12 := cb HB.out hx382_12
                     replace hx382_13 := cb HB.out hx382_13
                     replace hx382_14 := cb HB.out hx382_14
                     replace hx382_15 := cb HB.out hx382_15
                     replace p382 := eq_true p382
                     replace q382 := eq_true q382
                     refine start_ (n:=9) (S:=fun w' => w'.cell? (ad374.add ((x5_1).toNat * 16)) = some (.int .i64 ((rd_T44 l0 x5_1).f0)) ∧ w'.cell? ⟨(ad374.add ((x5_1).toNat * 16)).block,(ad374.add ((x5_1).toNat * 16)).off + 1,none⟩ = some (.int .i64 ((rd_T44 l0 x5_1).f1)) ∧ w'.cell? ⟨(ad374.add ((x5_1).toNat * 16)).block,(ad374.add ((x5_1).toNat * 16)).off + 2,none⟩ = some (.int .i64 ((rd_T44 l0 x5_1).f2)) ∧ w'.cell? ⟨(ad374.add ((x5_1).toNat * 16)).block,(ad374.add ((x5_1).toNat * 16)).off + 3,none⟩ = some (.int .i64 ((rd_T44 l0 x5_1).f3.f0)) ∧ w'.cell? ⟨(ad374.add ((x5_1).toNat * 16)).block,(ad374.add ((x5_1).toNat * 16)).off + 4,none⟩ = some (.int .i64 ((rd_T44 l0 x5_1).f3.f1)) ∧ w'.cell? ⟨(ad374.add ((x5_1).toNat * 16)).block,(ad374.add ((x5_1).toNat * 16)).off + 5,none⟩ = some (.int .i64 ((rd_T44 l0 x5_1).f3.f2)) ∧ w'.cell? ⟨(ad374.add ((x5_1).toNat * 16)).block,(ad374.add ((x5_1).toNat * 16)).off + 6,none⟩ = some (.int .i64 ((rd_T44 l0 x5_1).f3.f3)) ∧ w'.cell? ⟨(ad374.add ((x5_1).toNat * 16)).block,(ad374.add ((x5_1).toNat * 16)).off + 7,none⟩ = some (.int .i64 ((rd_T44 l0 x5_1).f3.f4)) ∧ w'.cell? ⟨(ad374.add ((x5_1).toNat * 16)).block,(ad374.add ((x5_1).toNat * 16)).off + 8,none⟩ = some (.string ((rd_T44 l0 x5_1).f3.f5)) ∧ w'.cell? ⟨(ad374.add ((x5_1).toNat * 16)).block,(ad374.add ((x5_1).toNat * 16)).off + 9,none⟩ = some (.slice A382_9 0 c382_9) ∧ w'.cell? ⟨(ad374.add ((x5_1).toNat * 16)).block,(ad374.add ((x5_1).toNat * 16)).off + 10,none⟩ = some (.int .i64 ((rd_T44 l0 x5_1).f5.f0)) ∧ w'.cell? ⟨(ad374.add ((x5_1).toNat * 16)).block,(ad374.add ((x5_1).toNat * 16)).off + 11,none⟩ = some (.int .i64 ((rd_T44 l0 x5_1).f5.f1)) ∧ w'.cell? ⟨(ad374.add ((x5_1).toNat * 16)).block,(ad374.add ((x5_1).toNat * 16)).off + 12,none⟩ = some (.int .i64 ((rd_T44 l0 x5_1).f5.f2)) ∧ w'.cell? ⟨(ad374.add ((x5_1).toNat * 16)).block,(ad374.add ((x5_1).toNat * 16)).off + 13,none⟩ = some (.int .i64 ((rd_T44 l0 x5_1).f5.f3)) ∧ w'.cell? ⟨(ad374.add ((x5_1).toNat * 16)).block,(ad374.add ((x5_1).toNat * 16)).off + 14,none⟩ = some (.int .i64 ((rd_T44 l0 x5_1).f5.f4)) ∧ w'.cell? ⟨(ad374.add ((x5_1).toNat * 16)).block,(ad374.add ((x5_1).toNat * 16)).off + 15,none⟩ = some (.int .i64 ((rd_T44 l0 x5_1).f5.f5))) (ds := []) (bm 9 0) (by kernel_rfl) rfl rfl ⟨(cb HB.out hw382_0),(cb HB.out hw382_1),(cb HB.out hw382_2),(cb HB.out hw382_3),(cb HB.out hw382_4),(cb HB.out hw382_5),(cb HB.out hw382_6),(cb HB.out hw382_7),(cb HB.out hw382_8),(cb HB.out hw382_9),(cb HB.out hw382_10),(cb HB.out hw382_11),(cb HB.out hw382_12),(cb HB.out hw382_13),(cb HB.out hw382_14),(cb HB.out hw382_15)⟩ (fun hHeld => ?_); refine with_tabW laws_heldWorkerS.tab28 laws_heldWorkerS.bits28 (fun HT_ HW_ => ?_)
                     generalize wr.drew = w29 at HB hx382_0 hx382_1 hx382_10 hx382_11 hx382_12 hx382_13 hx382_14 hx382_15 hx382_2 hx382_3 hx382_4 hx382_5 hx382_6 hx382_7 hx382_8 hx382_9 hHeld ⊢
                     refine pV_ 0 89 (bm 9 1) HT_.out ?_
                     refine pV_ 1 90 (bm 9 3) HT_.out ?_
                     refine pV_ 2 91 (bm 9 7) HT_.out ?_
                     refine pV_ 3 92 (bm 9 15) HT_.out ?_
                     refine pV_ 4 93 (bm 9 31) HT_.out ?_
                     refine pV_ 6 95 (bm 9 95) HT_.out ?_
                     refine tk 5 94 (bm 9 127) HT_.out HW_.out hHeld ?_
                     refine one_ (i:=7) (N:=some 96) (bm 9 255) rfl rfl (one_of HT_.out (by kernel_rfl)) (by decide) (fun K hK => ?_)
                     refine goes_ Try.func41 (by kernel_rfl) rfl #[.int .i64 (wrap64 ((wrap64 ((wrap64 ((wrap64 ((wrap64 ((wrap64 ((wrap64 ((wrap64 (x1_1 + 1)) + 1)) + 1)) + 1)) + 1)) + 1)) + 1)) + 1))] (by rfl) rfl rfl mA ?_
                     with_reducible refine (laws_markText.calls k1 (wrap64 ((wrap64 ((wrap64 ((wrap64 ((wrap64 ((wrap64 ((wrap64 ((wrap64 (x1_1 + 1)) + 1)) + 1)) + 1)) + 1)) + 1)) + 1)) + 1)) t383 _ A13.out).mono ?_
                     rintro e w30 ⟨rfl,hb⟩
                     refine ⟨_,rfl,?_⟩
                     replace HB := bsA hb
                     clear hb
                     refine hK.out _ _ ⟨(cb HB.out hw382_0),(cb HB.out hw382_1),(cb HB.out hw382_2),(cb HB.out hw382_3),(cb HB.out hw382_4),(cb HB.out hw382_5),(cb HB.out hw382_6),(cb HB.out hw382_7),(cb HB.out hw382_8),(cb HB.out hw382_9),(cb HB.out hw382_10),(cb HB.out hw382_11),(cb HB.out hw382_12),(cb HB.out hw382_13),(cb HB.out hw382_14),(cb HB.out hw382_15)⟩ (fun hHeld => ?_)
                     clear hK K
                     refine nw 96 ?_
                     refine pV_ 8 97 (bm 9 511) HT_.out ?_
                     refine done_ (done_of HT_.out (by kernel_rfl)) ?_
                     have p384 : 0 ≤ (x5_1 : Int) := od
                     have q384 : x5_1 < (l0.length : Int) := od
                     obtain ⟨ad384,A384_9,c384_9,e384,hx384_0,hx384_1,hx384_2,hx384_3,hx384_4,hx384_5,hx384_6,hx384_7,hx384_8,hx384_9,hx384_10,hx384_11,hx384_12,hx384_13,hx384_14,hx384_15⟩ := at_T44 HR0.out x5_1 p384 q384
                     obtain rfl : ad374 = ad384 := (by injection e384)
                     have ea_ := Option.some.inj (hw382_9.symm.trans hx384_9)
                     obtain ⟨eb_,ec_⟩ := kEmp_inj ea_
                     subst eb_
                     subst ec_
                     clear ea_
                     replace hx384_0 := cb HB.out hx384_0
                     replace hx384_1 := cb HB.out hx384_1
                     replace hx384_2 := cb HB.out hx384_2
                     replace hx384_3 := cb HB.out hx384_3
                     replace hx384_4 := cb HB.out hx384_4
                     replace hx384_5 := cb HB.out hx384_5
                     replace hx384_6 := cb HB.out hx384_6
                     replace hx384_7 := cb HB.out hx384_7
                     replace hx384_8 := cb HB.out hx384_8
                     replace hx384_9 := cb HB.out hx384_9
                     replace hx384_10 := cb HB.out hx384_10
                     replace hx384_11 := cb HB.out hx384_11
                     replace hx384_12 := cb HB.out hx384_12
                     replace hx384_13 := cb HB.out hx384_13
                     replace hx384_14 := cb HB.out hx384_14
                     replace hx384_15 := cb HB.out hx384_15
                     replace p384 := eq_true p384
                     replace q384 := eq_true q384
                     try go_wp2_with (first | ((with_reducible refine gate_callee (f:=44) rfl ?_); refine goesL_ (some 106) rfl rfl Try.func44 (by kernel_rfl) rfl #[.slice A382_9 0 c382_9,.int .i64 (wrap64 ((wrap64 ((wrap64 ((wrap64 ((wrap64 ((wrap64 ((wrap64 ((wrap64 ((wrap64 (x1_1 + 1)) + 1)) + 1)) + 1)) + 1)) + 1)) + 1)) + 1)) + 1))] rfl mA ?_; (refine (laws_heldEntryS.calls k1 _ _ ([] : List (S90)) (wrap64 ((wrap64 ((wrap64 ((wrap64 ((wrap64 ((wrap64 ((wrap64 ((wrap64 ((wrap64 (x1_1 + 1)) + 1)) + 1)) + 1)) + 1)) + 1)) + 1)) + 1)) + 1)) t385 _ ?side1 ?side2 A15.out).mono ?_); (case side1 => exact kEmp_C _ _ _); (case side2 => exact Nat.zero_le _); rintro e w31 ⟨rfl,hb⟩; refine ⟨_,rfl,?_⟩; replace HB := bsA hb; clear hb; have p386 : 0 ≤ (x5_1 : Int) := od; have q386 : x5_1 < (l0.length : Int) := od; obtain ⟨ad386,A386_9,c386_9,e386,hx386_0,hx386_1,hx386_2,hx386_3,hx386_4,hx386_5,hx386_6,hx386_7,hx386_8,hx386_9,hx386_10,hx386_11,hx386_12,hx386_13,hx386_14,hx386_15⟩ := at_T44 HR0.out x5_1 p386 q386; obtain rfl : ad374 = ad386 := (by injection e386); have ea_ := Option.some.inj (hw382_9.symm.trans hx386_9); obtain ⟨eb_,ec_⟩ := kEmp_inj ea_; subst eb_; subst ec_; clear ea_; replace hx386_0 := cb HB.out hx386_0; replace hx386_1 := cb HB.out hx386_1; replace hx386_2 := cb HB.out hx386_2; replace hx386_3 := cb HB.out hx386_3; replace hx386_4 := cb HB.out hx386_4; replace hx386_5 := cb HB.out hx386_5; replace hx386_6 := cb HB.out hx386_6; replace hx386_7 := cb HB.out hx386_7; replace hx386_8 := cb HB.out hx386_8; replace hx386_9 := cb HB.out hx386_9; replace hx386_10 := cb HB.out hx386_10; replace hx386_11 := cb HB.out hx386_11; replace hx386_12 := cb HB.out hx386_12; replace hx386_13 := cb HB.out hx386_13; replace hx386_14 := cb HB.out hx386_14; replace hx386_15 := cb HB.out hx386_15; replace p386 := eq_true p386; replace q386 := eq_true q386))
                     go_ret
                     exact ⟨by first | rfl | (simp only [i64_w,i32_w] <;> rfl) | (simp [errW_none,errW_some] <;> rfl) | (simp [*,errW_none,errW_some] <;> rfl),bA⟩
                   ·rw [if_neg c24] at H
                    have c24b0 : (((rd_T44 l0 x5_1).f5.f4) == (wrap64 ((wrap64 ((wrap64 ((wrap64 (t385 + 1)) + 1)) + 1)) + 1))) = false := beq_eq_false_iff_ne.mpr c24
                    have c24b1 : (((rd_T44 l0 x5_1).f5.f4) != (wrap64 ((wrap64 ((wrap64 ((wrap64 (t385 + 1)) + 1)) + 1)) + 1))) = true := bne_iff_ne.mpr c24
                    obtain rfl := Option.some.inj H
                    have p374 : 0 ≤ (x5_1 : Int) := od
                    have q374 : x5_1 < (l0.length : Int) := od
                    obtain ⟨ad374,A374_9,c374_9,e374,hx374_0,hx374_1,hx374_2,hx374_3,hx374_4,hx374_5,hx374_6,hx374_7,hx374_8,hx374_9,hx374_10,hx374_11,hx374_12,hx374_13,hx374_14,hx374_15⟩ := at_T44 HR0.out x5_1 p374 q374
                    cases e374
                    replace hx374_0 := cb HB.out hx374_0
                    replace hx374_1 := cb HB.out hx374_1
                    replace hx374_2 := cb HB.out hx374_2
                    replace hx374_3 := cb HB.out hx374_3
                    replace hx374_4 := cb HB.out hx374_4
                    replace hx374_5 := cb HB.out hx374_5
                    replace hx374_6 := cb HB.out hx374_6
                    replace hx374_7 := cb HB.out hx374_7
                    replace hx374_8 := cb HB.out hx374_8
                    replace hx374_9 := cb HB.out hx374_9
                    replace hx374_10 := cb HB.out hx374_10
                    replace hx374_11 := cb HB.out hx374_11
                    replace hx374_12 := cb HB.out hx374_12
                    replace hx374_13 := cb HB.out hx374_13
                    replace hx374_14 := cb HB.out hx374_14
                    replace hx374_15 := cb HB.out hx374_15
                    replace p374 := eq_true p374
                    replace q374 := eq_true q374
                    try go_wp2
                    replace HB := Aside0.mk (below_drew1 HB.out)
                    have p382 : 0 ≤ (x5_1 : Int) := od
                    have q382 : x5_1 < (l0.length : Int) := od
                    obtain ⟨ad382,A382_9,c382_9,e382,hx382_0,hx382_1,hx382_2,hx382_3,hx382_4,hx382_5,hx382_6,hx382_7,hx382_8,hx382_9,hx382_10,hx382_11,hx382_12,hx382_13,hx382_14,hx382_15⟩ := at_T44 HR0.out x5_1 p382 q382
                    have hw382_15 := hx382_15
                    have hw382_14 := hx382_14
                    have hw382_13 := hx382_13
                    have hw382_12 := hx382_12
                    have hw382_11 := hx382_11
                    have hw382_10 := hx382_10
                    have hw382_9 := hx382_9
                    have hw382_8 := hx382_8
                    have hw382_7 := hx382_7
                    have hw382_6 := hx382_6
                    have hw382_5 := hx382_5
                    have hw382_4 := hx382_4
                    have hw382_3 := hx382_3
                    have hw382_2 := hx382_2
                    have hw382_1 := hx382_1
                    have hw382_0 := hx382_0
                    obtain rfl : ad374 = ad382 := (by injection e382)
                    replace hx382_0 := cb HB.out hx382_0
                    replace hx382_1 := cb HB.out hx382_1
                    replace hx382_2 := cb HB.out hx382_2
                    replace hx382_3 := cb HB.out hx382_3
                    replace hx382_4 := cb HB.out hx382_4
                    replace hx382_5 := cb HB.out hx382_5
                    replace hx382_6 := cb HB.out hx382_6
                    replace hx382_7 := cb HB.out hx382_7
                    replace hx382_8 := cb HB.out hx382_8
                    replace hx382_9 := cb HB.out hx382_9
                    replace hx382_10 := cb HB.out hx382_10
                    replace hx382_11 := cb HB.out hx382_11
                    replace hx382_12 := cb HB.out hx382_12
                    replace hx382_13 := cb HB.out hx382_13
                    replace hx382_14 := cb HB.out hx382_14
                    replace hx382_15 := cb HB.out hx382_15
                    replace p382 := eq_true p382
                    replace q382 := eq_true q382
                    refine start_ (n:=9) (S:=fun w' => w'.cell? (ad374.add ((x5_1).toNat * 16)) = some (.int .i64 ((rd_T44 l0 x5_1).f0)) ∧ w'.cell? ⟨(ad374.add ((x5_1).toNat * 16)).block,(ad374.add ((x5_1).toNat * 16)).off + 1,none⟩ = some (.int .i64 ((rd_T44 l0 x5_1).f1)) ∧ w'.cell? ⟨(ad374.add ((x5_1).toNat * 16)).block,(ad374.add ((x5_1).toNat * 16)).off + 2,none⟩ = some (.int .i64 ((rd_T44 l0 x5_1).f2)) ∧ w'.cell? ⟨(ad374.add ((x5_1).toNat * 16)).block,(ad374.add ((x5_1).toNat * 16)).off + 3,none⟩ = some (.int .i64 ((rd_T44 l0 x5_1).f3.f0)) ∧ w'.cell? ⟨(ad374.add ((x5_1).toNat * 16)).block,(ad374.add ((x5_1).toNat * 16)).off + 4,none⟩ = some (.int .i64 ((rd_T44 l0 x5_1).f3.f1)) ∧ w'.cell? ⟨(ad374.add ((x5_1).toNat * 16)).block,(ad374.add ((x5_1).toNat * 16)).off + 5,none⟩ = some (.int .i64 ((rd_T44 l0 x5_1).f3.f2)) ∧ w'.cell? ⟨(ad374.add ((x5_1).toNat * 16)).block,(ad374.add ((x5_1).toNat * 16)).off + 6,none⟩ = some (.int .i64 ((rd_T44 l0 x5_1).f3.f3)) ∧ w'.cell? ⟨(ad374.add ((x5_1).toNat * 16)).block,(ad374.add ((x5_1).toNat * 16)).off + 7,none⟩ = some (.int .i64 ((rd_T44 l0 x5_1).f3.f4)) ∧ w'.cell? ⟨(ad374.add ((x5_1).toNat * 16)).block,(ad374.add ((x5_1).toNat * 16)).off + 8,none⟩ = some (.string ((rd_T44 l0 x5_1).f3.f5)) ∧ w'.cell? ⟨(ad374.add ((x5_1).toNat * 16)).block,(ad374.add ((x5_1).toNat * 16)).off + 9,none⟩ = some (.slice A382_9 0 c382_9) ∧ w'.cell? ⟨(ad374.add ((x5_1).toNat * 16)).block,(ad374.add ((x5_1).toNat * 16)).off + 10,none⟩ = some (.int .i64 ((rd_T44 l0 x5_1).f5.f0)) ∧ w'.cell? ⟨(ad374.add ((x5_1).toNat * 16)).block,(ad374.add ((x5_1).toNat * 16)).off + 11,none⟩ = some (.int .i64 ((rd_T44 l0 x5_1).f5.f1)) ∧ w'.cell? ⟨(ad374.add ((x5_1).toNat * 16)).block,(ad374.add ((x5_1).toNat * 16)).off + 12,none⟩ = some (.int .i64 ((rd_T44 l0 x5_1).f5.f2)) ∧ w'.cell? ⟨(ad374.add ((x5_1).toNat * 16)).block,(ad374.add ((x5_1).toNat * 16)).off + 13,none⟩ = some (.int .i64 ((rd_T44 l0 x5_1).f5.f3)) ∧ w'.cell? ⟨(ad374.add ((x5_1).toNat * 16)).block,(ad374.add ((x5_1).toNat * 16)).off + 14,none⟩ = some (.int .i64 ((rd_T44 l0 x5_1).f5.f4)) ∧ w'.cell? ⟨(ad374.add ((x5_1).toNat * 16)).block,(ad374.add ((x5_1).toNat * 16)).off + 15,none⟩ = some (.int .i64 ((rd_T44 l0 x5_1).f5.f5))) (ds := []) (bm 9 0) (by kernel_rfl) rfl rfl ⟨(cb HB.out hw382_0),(cb HB.out hw382_1),(cb HB.out hw382_2),(cb HB.out hw382_3),(cb HB.out hw382_4),(cb HB.out hw382_5),(cb HB.out hw382_6),(cb HB.out hw382_7),(cb HB.out hw382_8),(cb HB.out hw382_9),(cb HB.out hw382_10),(cb HB.out hw382_11),(cb HB.out hw382_12),(cb HB.out hw382_13),(cb HB.out hw382_14),(cb HB.out hw382_15)⟩ (fun hHeld => ?_); refine with_tabW laws_heldWorkerS.tab28 laws_heldWorkerS.bits28 (fun HT_ HW_ => ?_)
                    generalize wr.drew = w32 at HB hx382_0 hx382_1 hx382_10 hx382_11 hx382_12 hx382_13 hx382_14 hx382_15 hx382_2 hx382_3 hx382_4 hx382_5 hx382_6 hx382_7 hx382_8 hx382_9 hHeld ⊢
                    refine pV_ 0 89 (bm 9 1) HT_.out ?_
                    refine pV_ 1 90 (bm 9 3) HT_.out ?_
                    refine pV_ 2 91 (bm 9 7) HT_.out ?_
                    refine pV_ 3 92 (bm 9 15) HT_.out ?_
                    refine pV_ 4 93 (bm 9 31) HT_.out ?_
                    refine pV_ 6 95 (bm 9 95) HT_.out ?_
                    refine tk 5 94 (bm 9 127) HT_.out HW_.out hHeld ?_
                    refine one_ (i:=7) (N:=some 96) (bm 9 255) rfl rfl (one_of HT_.out (by kernel_rfl)) (by decide) (fun K hK => ?_)
                    refine goes_ Try.func41 (by kernel_rfl) rfl #[.int .i64 (wrap64 ((wrap64 ((wrap64 ((wrap64 ((wrap64 ((wrap64 ((wrap64 ((wrap64 (x1_1 + 1)) + 1)) + 1)) + 1)) + 1)) + 1)) + 1)) + 1))] (by rfl) rfl rfl mA ?_
                    with_reducible refine (laws_markText.calls k1 (wrap64 ((wrap64 ((wrap64 ((wrap64 ((wrap64 ((wrap64 ((wrap64 ((wrap64 (x1_1 + 1)) + 1)) + 1)) + 1)) + 1)) + 1)) + 1)) + 1)) t383 _ A13.out).mono ?_
                    rintro e w33 ⟨rfl,hb⟩
                    refine ⟨_,rfl,?_⟩
                    replace HB := bsA hb
                    clear hb
                    refine hK.out _ _ ⟨(cb HB.out hw382_0),(cb HB.out hw382_1),(cb HB.out hw382_2),(cb HB.out hw382_3),(cb HB.out hw382_4),(cb HB.out hw382_5),(cb HB.out hw382_6),(cb HB.out hw382_7),(cb HB.out hw382_8),(cb HB.out hw382_9),(cb HB.out hw382_10),(cb HB.out hw382_11),(cb HB.out hw382_12),(cb HB.out hw382_13),(cb HB.out hw382_14),(cb HB.out hw382_15)⟩ (fun hHeld => ?_)
                    clear hK K
                    refine nw 96 ?_
                    refine pV_ 8 97 (bm 9 511) HT_.out ?_
                    refine done_ (done_of HT_.out (by kernel_rfl)) ?_
                    have p384 : 0 ≤ (x5_1 : Int) := od
                    have q384 : x5_1 < (l0.length : Int) := od
                    obtain ⟨ad384,A384_9,c384_9,e384,hx384_0,hx384_1,hx384_2,hx384_3,hx384_4,hx384_5,hx384_6,hx384_7,hx384_8,hx384_9,hx384_10,hx384_11,hx384_12,hx384_13,hx384_14,hx384_15⟩ := at_T44 HR0.out x5_1 p384 q384
                    obtain rfl : ad374 = ad384 := (by injection e384)
                    have ea_ := Option.some.inj (hw382_9.symm.trans hx384_9)
                    obtain ⟨eb_,ec_⟩ := kEmp_inj ea_
                    subst eb_
                    subst ec_
                    clear ea_
                    replace hx384_0 := cb HB.out hx384_0
                    replace hx384_1 := cb HB.out hx384_1
                    replace hx384_2 := cb HB.out hx384_2
                    replace hx384_3 := cb HB.out hx384_3
                    replace hx384_4 := cb HB.out hx384_4
                    replace hx384_5 := cb HB.out hx384_5
                    replace hx384_6 := cb HB.out hx384_6
                    replace hx384_7 := cb HB.out hx384_7
                    replace hx384_8 := cb HB.out hx384_8
                    replace hx384_9 := cb HB.out hx384_9
                    replace hx384_10 := cb HB.out hx384_10
                    replace hx384_11 := cb HB.out hx384_11
                    replace hx384_12 := cb HB.out hx384_12
                    replace hx384_13 := cb HB.out hx384_13
                    replace hx384_14 := cb HB.out hx384_14
                    replace hx384_15 := cb HB.out hx384_15
                    replace p384 := eq_true p384
                    replace q384 := eq_true q384
                    try go_wp2_with (first | ((with_reducible refine gate_callee (f:=44) rfl ?_); refine goesL_ (some 106) rfl rfl Try.func44 (by kernel_rfl) rfl #[.slice A382_9 0 c382_9,.int .i64 (wrap64 ((wrap64 ((wrap64 ((wrap64 ((wrap64 ((wrap64 ((wrap64 ((wrap64 ((wrap64 (x1_1 + 1)) + 1)) + 1)) + 1)) + 1)) + 1)) + 1)) + 1)) + 1))] rfl mA ?_; (refine (laws_heldEntryS.calls k1 _ _ ([] : List (S90)) (wrap64 ((wrap64 ((wrap64 ((wrap64 ((wrap64 ((wrap64 ((wrap64 ((wrap64 ((wrap64 (x1_1 + 1)) + 1)) + 1)) + 1)) + 1)) + 1)) + 1)) + 1)) + 1)) t385 _ ?side1 ?side2 A15.out).mono ?_); (case side1 => exact kEmp_C _ _ _); (case side2 => exact Nat.zero_le _); rintro e w34 ⟨rfl,hb⟩; refine ⟨_,rfl,?_⟩; replace HB := bsA hb; clear hb; have p386 : 0 ≤ (x5_1 : Int) := od; have q386 : x5_1 < (l0.length : Int) := od; obtain ⟨ad386,A386_9,c386_9,e386,hx386_0,hx386_1,hx386_2,hx386_3,hx386_4,hx386_5,hx386_6,hx386_7,hx386_8,hx386_9,hx386_10,hx386_11,hx386_12,hx386_13,hx386_14,hx386_15⟩ := at_T44 HR0.out x5_1 p386 q386; obtain rfl : ad374 = ad386 := (by injection e386); have ea_ := Option.some.inj (hw382_9.symm.trans hx386_9); obtain ⟨eb_,ec_⟩ := kEmp_inj ea_; subst eb_; subst ec_; clear ea_; replace hx386_0 := cb HB.out hx386_0; replace hx386_1 := cb HB.out hx386_1; replace hx386_2 := cb HB.out hx386_2; replace hx386_3 := cb HB.out hx386_3; replace hx386_4 := cb HB.out hx386_4; replace hx386_5 := cb HB.out hx386_5; replace hx386_6 := cb HB.out hx386_6; replace hx386_7 := cb HB.out hx386_7; replace hx386_8 := cb HB.out hx386_8; replace hx386_9 := cb HB.out hx386_9; replace hx386_10 := cb HB.out hx386_10; replace hx386_11 := cb HB.out hx386_11; replace hx386_12 := cb HB.out hx386_12; replace hx386_13 := cb HB.out hx386_13; replace hx386_14 := cb HB.out hx386_14; replace hx386_15 := cb HB.out hx386_15; replace p386 := eq_true p386; replace q386 := eq_true q386))
                    go_ret
                    exact ⟨by first | rfl | (simp only [i64_w,i32_w] <;> rfl) | (simp [errW_none,errW_some] <;> rfl) | (simp [*,errW_none,errW_some] <;> rfl),bA⟩
                  ·rw [if_neg c23] at H
                   have c23b0 : (((rd_T44 l0 x5_1).f5.f3) == (wrap64 ((wrap64 ((wrap64 (t385 + 1)) + 1)) + 1))) = false := beq_eq_false_iff_ne.mpr c23
                   have c23b1 : (((rd_T44 l0 x5_1).f5.f3) != (wrap64 ((wrap64 ((wrap64 (t385 + 1)) + 1)) + 1))) = true := bne_iff_ne.mpr c23
                   obtain rfl := Option.some.inj H
                   have p374 : 0 ≤ (x5_1 : Int) := od
                   have q374 : x5_1 < (l0.length : Int) := od
                   obtain ⟨ad374,A374_9,c374_9,e374,hx374_0,hx374_1,hx374_2,hx374_3,hx374_4,hx374_5,hx374_6,hx374_7,hx374_8,hx374_9,hx374_10,hx374_11,hx374_12,hx374_13,hx374_14,hx374_15⟩ := at_T44 HR0.out x5_1 p374 q374
                   cases e374
                   replace hx374_0 := cb HB.out hx374_0
                   replace hx374_1 := cb HB.out hx374_1
                   replace hx374_2 := cb HB.out hx374_2
                   replace hx374_3 := cb HB.out hx374_3
                   replace hx374_4 := cb HB.out hx374_4
                   replace hx374_5 := cb HB.out hx374_5
                   replace hx374_6 := cb HB.out hx374_6
                   replace hx374_7 := cb HB.out hx374_7
                   replace hx374_8 := cb HB.out hx374_8
                   replace hx374_9 := cb HB.out hx374_9
                   replace hx374_10 := cb HB.out hx374_10
                   replace hx374_11 := cb HB.out hx374_11
                   replace hx374_12 := cb HB.out hx374_12
                   replace hx374_13 := cb HB.out hx374_13
                   replace hx374_14 := cb HB.out hx374_14
                   replace hx374_15 := cb HB.out hx374_15
                   replace p374 := eq_true p374
                   replace q374 := eq_true q374
                   try go_wp2
                   replace HB := Aside0.mk (below_drew1 HB.out)
                   have p382 : 0 ≤ (x5_1 : Int) := od
                   have q382 : x5_1 < (l0.length : Int) := od
                   obtain ⟨ad382,A382_9,c382_9,e382,hx382_0,hx382_1,hx382_2,hx382_3,hx382_4,hx382_5,hx382_6,hx382_7,hx382_8,hx382_9,hx382_10,hx382_11,hx382_12,hx382_13,hx382_14,hx382_15⟩ := at_T44 HR0.out x5_1 p382 q382
                   have hw382_15 := hx382_15
                   have hw382_14 := hx382_14
                   have hw382_13 := hx382_13
                   have hw382_12 := hx382_12
                   have hw382_11 := hx382_11
                   have hw382_10 := hx382_10
                   have hw382_9 := hx382_9
                   have hw382_8 := hx382_8
                   have hw382_7 := hx382_7
                   have hw382_6 := hx382_6
                   have hw382_5 := hx382_5
                   have hw382_4 := hx382_4
                   have hw382_3 := hx382_3
                   have hw382_2 := hx382_2
                   have hw382_1 := hx382_1
                   have hw382_0 := hx382_0
                   obtain rfl : ad374 = ad382 := (by injection e382)
                   replace hx382_0 := cb HB.out hx382_0
                   replace hx382_1 := cb HB.out hx382_1
                   replace hx382_2 := cb HB.out hx382_2
                   replace hx382_3 := cb HB.out hx382_3
                   replace hx382_4 := cb HB.out hx382_4
                   replace hx382_5 := cb HB.out hx382_5
                   replace hx382_6 := cb HB.out hx382_6
                   replace hx382_7 := cb HB.out hx382_7
                   replace hx382_8 := cb HB.out hx382_8
                   replace hx382_9 := cb HB.out hx382_9
                   replace hx382_10 := cb HB.out hx382_10
                   replace hx382_11 := cb HB.out hx382_11
                   replace hx382_12 := cb HB.out hx382_12
                   replace hx382_13 := cb HB.out hx382_13
                   replace hx382_14 := cb HB.out hx382_14
                   replace hx382_15 := cb HB.out hx382_15
                   replace p382 := eq_true p382
                   replace q382 := eq_true q382
                   refine start_ (n:=9) (S:=fun w' => w'.cell? (ad374.add ((x5_1).toNat * 16)) = some (.int .i64 ((rd_T44 l0 x5_1).f0)) ∧ w'.cell? ⟨(ad374.add ((x5_1).toNat * 16)).block,(ad374.add ((x5_1).toNat * 16)).off + 1,none⟩ = some (.int .i64 ((rd_T44 l0 x5_1).f1)) ∧ w'.cell? ⟨(ad374.add ((x5_1).toNat * 16)).block,(ad374.add ((x5_1).toNat * 16)).off + 2,none⟩ = some (.int .i64 ((rd_T44 l0 x5_1).f2)) ∧ w'.cell? ⟨(ad374.add ((x5_1).toNat * 16)).block,(ad374.add ((x5_1).toNat * 16)).off + 3,none⟩ = some (.int .i64 ((rd_T44 l0 x5_1).f3.f0)) ∧ w'.cell? ⟨(ad374.add ((x5_1).toNat * 16)).block,(ad374.add ((x5_1).toNat * 16)).off + 4,none⟩ = some (.int .i64 ((rd_T44 l0 x5_1).f3.f1)) ∧ w'.cell? ⟨(ad374.add ((x5_1).toNat * 16)).block,(ad374.add ((x5_1).toNat * 16)).off + 5,none⟩ = some (.int .i64 ((rd_T44 l0 x5_1).f3.f2)) ∧ w'.cell? ⟨(ad374.add ((x5_1).toNat * 16)).block,(ad374.add ((x5_1).toNat * 16)).off + 6,none⟩ = some (.int .i64 ((rd_T44 l0 x5_1).f3.f3)) ∧ w'.cell? ⟨(ad374.add ((x5_1).toNat * 16)).block,(ad374.add ((x5_1).toNat * 16)).off + 7,none⟩ = some (.int .i64 ((rd_T44 l0 x5_1).f3.f4)) ∧ w'.cell? ⟨(ad374.add ((x5_1).toNat * 16)).block,(ad374.add ((x5_1).toNat * 16)).off + 8,none⟩ = some (.string ((rd_T44 l0 x5_1).f3.f5)) ∧ w'.cell? ⟨(ad374.add ((x5_1).toNat * 16)).block,(ad374.add ((x5_1).toNat * 16)).off + 9,none⟩ = some (.slice A382_9 0 c382_9) ∧ w'.cell? ⟨(ad374.add ((x5_1).toNat * 16)).block,(ad374.add ((x5_1).toNat * 16)).off + 10,none⟩ = some (.int .i64 ((rd_T44 l0 x5_1).f5.f0)) ∧ w'.cell? ⟨(ad374.add ((x5_1).toNat * 16)).block,(ad374.add ((x5_1).toNat * 16)).off + 11,none⟩ = some (.int .i64 ((rd_T44 l0 x5_1).f5.f1)) ∧ w'.cell? ⟨(ad374.add ((x5_1).toNat * 16)).block,(ad374.add ((x5_1).toNat * 16)).off + 12,none⟩ = some (.int .i64 ((rd_T44 l0 x5_1).f5.f2)) ∧ w'.cell? ⟨(ad374.add ((x5_1).toNat * 16)).block,(ad374.add ((x5_1).toNat * 16)).off + 13,none⟩ = some (.int .i64 ((rd_T44 l0 x5_1).f5.f3)) ∧ w'.cell? ⟨(ad374.add ((x5_1).toNat * 16)).block,(ad374.add ((x5_1).toNat * 16)).off + 14,none⟩ = some (.int .i64 ((rd_T44 l0 x5_1).f5.f4)) ∧ w'.cell? ⟨(ad374.add ((x5_1).toNat * 16)).block,(ad374.add ((x5_1).toNat * 16)).off + 15,none⟩ = some (.int .i64 ((rd_T44 l0 x5_1).f5.f5))) (ds := []) (bm 9 0) (by kernel_rfl) rfl rfl ⟨(cb HB.out hw382_0),(cb HB.out hw382_1),(cb HB.out hw382_2),(cb HB.out hw382_3),(cb HB.out hw382_4),(cb HB.out hw382_5),(cb HB.out hw382_6),(cb HB.out hw382_7),(cb HB.out hw382_8),(cb HB.out hw382_9),(cb HB.out hw382_10),(cb HB.out hw382_11),(cb HB.out hw382_12),(cb HB.out hw382_13),(cb HB.out hw382_14),(cb HB.out hw382_15)⟩ (fun hHeld => ?_); refine with_tabW laws_heldWorkerS.tab28 laws_heldWorkerS.bits28 (fun HT_ HW_ => ?_)
                   generalize wr.drew = w35 at HB hx382_0 hx382_1 hx382_10 hx382_11 hx382_12 hx382_13 hx382_14 hx382_15 hx382_2 hx382_3 hx382_4 hx382_5 hx382_6 hx382_7 hx382_8 hx382_9 hHeld ⊢
                   refine pV_ 0 89 (bm 9 1) HT_.out ?_
                   refine pV_ 1 90 (bm 9 3) HT_.out ?_
                   refine pV_ 2 91 (bm 9 7) HT_.out ?_
                   refine pV_ 3 92 (bm 9 15) HT_.out ?_
                   refine pV_ 4 93 (bm 9 31) HT_.out ?_
                   refine pV_ 6 95 (bm 9 95) HT_.out ?_
                   refine tk 5 94 (bm 9 127) HT_.out HW_.out hHeld ?_
                   refine one_ (i:=7) (N:=some 96) (bm 9 255) rfl rfl (one_of HT_.out (by kernel_rfl)) (by decide) (fun K hK => ?_)
                   refine goes_ Try.func41 (by kernel_rfl) rfl #[.int .i64 (wrap64 ((wrap64 ((wrap64 ((wrap64 ((wrap64 ((wrap64 ((wrap64 ((wrap64 (x1_1 + 1)) + 1)) + 1)) + 1)) + 1)) + 1)) + 1)) + 1))] (by rfl) rfl rfl mA ?_
                   with_reducible refine (laws_markText.calls k1 (wrap64 ((wrap64 ((wrap64 ((wrap64 ((wrap64 ((wrap64 ((wrap64 ((wrap64 (x1_1 + 1)) + 1)) + 1)) + 1)) + 1)) + 1)) + 1)) + 1)) t383 _ A13.out).mono ?_
                   rintro e w36 ⟨rfl,hb⟩
                   refine ⟨_,rfl,?_⟩
                   replace HB := bsA hb
                   clear hb
                   refine hK.out _ _ ⟨(cb HB.out hw382_0),(cb HB.out hw382_1),(cb HB.out hw382_2),(cb HB.out hw382_3),(cb HB.out hw382_4),(cb HB.out hw382_5),(cb HB.out hw382_6),(cb HB.out hw382_7),(cb HB.out hw382_8),(cb HB.out hw382_9),(cb HB.out hw382_10),(cb HB.out hw382_11),(cb HB.out hw382_12),(cb HB.out hw382_13),(cb HB.out hw382_14),(cb HB.out hw382_15)⟩ (fun hHeld => ?_)
                   clear hK K
                   refine nw 96 ?_
                   refine pV_ 8 97 (bm 9 511) HT_.out ?_
                   refine done_ (done_of HT_.out (by kernel_rfl)) ?_
                   have p384 : 0 ≤ (x5_1 : Int) := od
                   have q384 : x5_1 < (l0.length : Int) := od
                   obtain ⟨ad384,A384_9,c384_9,e384,hx384_0,hx384_1,hx384_2,hx384_3,hx384_4,hx384_5,hx384_6,hx384_7,hx384_8,hx384_9,hx384_10,hx384_11,hx384_12,hx384_13,hx384_14,hx384_15⟩ := at_T44 HR0.out x5_1 p384 q384
                   obtain rfl : ad374 = ad384 := (by injection e384)
                   have ea_ := Option.some.inj (hw382_9.symm.trans hx384_9)
                   obtain ⟨eb_,ec_⟩ := kEmp_inj ea_
                   subst eb_
                   subst ec_
                   clear ea_
                   replace hx384_0 := cb HB.out hx384_0
                   replace hx384_1 := cb HB.out hx384_1
                   replace hx384_2 := cb HB.out hx384_2
                   replace hx384_3 := cb HB.out hx384_3
                   replace hx384_4 := cb HB.out hx384_4
                   replace hx384_5 := cb HB.out hx384_5
                   replace hx384_6 := cb HB.out hx384_6
                   replace hx384_7 := cb HB.out hx384_7
                   replace hx384_8 := cb HB.out hx384_8
                   replace hx384_9 := cb HB.out hx384_9
                   replace hx384_10 := cb HB.out hx384_10
                   replace hx384_11 := cb HB.out hx384_11
                   replace hx384_12 := cb HB.out hx384_12
                   replace hx384_13 := cb HB.out hx384_13
                   replace hx384_14 := cb HB.out hx384_14
                   replace hx384_15 := cb HB.out hx384_15
                   replace p384 := eq_true p384
                   replace q384 := eq_true q384
                   try go_wp2_with (first | ((with_reducible refine gate_callee (f:=44) rfl ?_); refine goesL_ (some 106) rfl rfl Try.func44 (by kernel_rfl) rfl #[.slice A382_9 0 c382_9,.int .i64 (wrap64 ((wrap64 ((wrap64 ((wrap64 ((wrap64 ((wrap64 ((wrap64 ((wrap64 ((wrap64 (x1_1 + 1)) + 1)) + 1)) + 1)) + 1)) + 1)) + 1)) + 1)) + 1))] rfl mA ?_; (refine (laws_heldEntryS.calls k1 _ _ ([] : List (S90)) (wrap64 ((wrap64 ((wrap64 ((wrap64 ((wrap64 ((wrap64 ((wrap64 ((wrap64 ((wrap64 (x1_1 + 1)) + 1)) + 1)) + 1)) + 1)) + 1)) + 1)) + 1)) + 1)) t385 _ ?side1 ?side2 A15.out).mono ?_); (case side1 => exact kEmp_C _ _ _); (case side2 => exact Nat.zero_le _); rintro e w37 ⟨rfl,hb⟩; refine ⟨_,rfl,?_⟩; replace HB := bsA hb; clear hb; have p386 : 0 ≤ (x5_1 : Int) := od; have q386 : x5_1 < (l0.length : Int) := od; obtain ⟨ad386,A386_9,c386_9,e386,hx386_0,hx386_1,hx386_2,hx386_3,hx386_4,hx386_5,hx386_6,hx386_7,hx386_8,hx386_9,hx386_10,hx386_11,hx386_12,hx386_13,hx386_14,hx386_15⟩ := at_T44 HR0.out x5_1 p386 q386; obtain rfl : ad374 = ad386 := (by injection e386); have ea_ := Option.some.inj (hw382_9.symm.trans hx386_9); obtain ⟨eb_,ec_⟩ := kEmp_inj ea_; subst eb_; subst ec_; clear ea_; replace hx386_0 := cb HB.out hx386_0; replace hx386_1 := cb HB.out hx386_1; replace hx386_2 := cb HB.out hx386_2; replace hx386_3 := cb HB.out hx386_3; replace hx386_4 := cb HB.out hx386_4; replace hx386_5 := cb HB.out hx386_5; replace hx386_6 := cb HB.out hx386_6; replace hx386_7 := cb HB.out hx386_7; replace hx386_8 := cb HB.out hx386_8; replace hx386_9 := cb HB.out hx386_9; replace hx386_10 := cb HB.out hx386_10; replace hx386_11 := cb HB.out hx386_11; replace hx386_12 := cb HB.out hx386_12; replace hx386_13 := cb HB.out hx386_13; replace hx386_14 := cb HB.out hx386_14; replace hx386_15 := cb HB.out hx386_15; replace p386 := eq_true p386; replace q386 := eq_true q386))
                   go_ret
                   exact ⟨by first | rfl | (simp only [i64_w,i32_w] <;> rfl) | (simp [errW_none,errW_some] <;> rfl) | (simp [*,errW_none,errW_some] <;> rfl),bA⟩
                 ·rw [if_neg c22] at H
                  have c22b0 : (((rd_T44 l0 x5_1).f5.f2) == (wrap64 ((wrap64 (t385 + 1)) + 1))) = false := beq_eq_false_iff_ne.mpr c22
                  have c22b1 : (((rd_T44 l0 x5_1).f5.f2) != (wrap64 ((wrap64 (t385 + 1)) + 1))) = true := bne_iff_ne.mpr c22
                  obtain rfl := Option.some.inj H
                  have p374 : 0 ≤ (x5_1 : Int) := od
                  have q374 : x5_1 < (l0.length : Int) := od
                  obtain ⟨ad374,A374_9,c374_9,e374,hx374_0,hx374_1,hx374_2,hx374_3,hx374_4,hx374_5,hx374_6,hx374_7,hx374_8,hx374_9,hx374_10,hx374_11,hx374_12,hx374_13,hx374_14,hx374_15⟩ := at_T44 HR0.out x5_1 p374 q374
                  cases e374
                  replace hx374_0 := cb HB.out hx374_0
                  replace hx374_1 := cb HB.out hx374_1
                  replace hx374_2 := cb HB.out hx374_2
                  replace hx374_3 := cb HB.out hx374_3
                  replace hx374_4 := cb HB.out hx374_4
                  replace hx374_5 := cb HB.out hx374_5
                  replace hx374_6 := cb HB.out hx374_6
                  replace hx374_7 := cb HB.out hx374_7
                  replace hx374_8 := cb HB.out hx374_8
                  replace hx374_9 := cb HB.out hx374_9
                  replace hx374_10 := cb HB.out hx374_10
                  replace hx374_11 := cb HB.out hx374_11
                  replace hx374_12 := cb HB.out hx374_12
                  replace hx374_13 := cb HB.out hx374_13
                  replace hx374_14 := cb HB.out hx374_14
                  replace hx374_15 := cb HB.out hx374_15
                  replace p374 := eq_true p374
                  replace q374 := eq_true q374
                  try go_wp2
                  replace HB := Aside0.mk (below_drew1 HB.out)
                  have p382 : 0 ≤ (x5_1 : Int) := od
                  have q382 : x5_1 < (l0.length : Int) := od
                  obtain ⟨ad382,A382_9,c382_9,e382,hx382_0,hx382_1,hx382_2,hx382_3,hx382_4,hx382_5,hx382_6,hx382_7,hx382_8,hx382_9,hx382_10,hx382_11,hx382_12,hx382_13,hx382_14,hx382_15⟩ := at_T44 HR0.out x5_1 p382 q382
                  have hw382_15 := hx382_15
                  have hw382_14 := hx382_14
                  have hw382_13 := hx382_13
                  have hw382_12 := hx382_12
                  have hw382_11 := hx382_11
                  have hw382_10 := hx382_10
                  have hw382_9 := hx382_9
                  have hw382_8 := hx382_8
                  have hw382_7 := hx382_7
                  have hw382_6 := hx382_6
                  have hw382_5 := hx382_5
                  have hw382_4 := hx382_4
                  have hw382_3 := hx382_3
                  have hw382_2 := hx382_2
                  have hw382_1 := hx382_1
                  have hw382_0 := hx382_0
                  obtain rfl : ad374 = ad382 := (by injection e382)
                  replace hx382_0 := cb HB.out hx382_0
                  replace hx382_1 := cb HB.out hx382_1
                  replace hx382_2 := cb HB.out hx382_2
                  replace hx382_3 := cb HB.out hx382_3
                  replace hx382_4 := cb HB.out hx382_4
                  replace hx382_5 := cb HB.out hx382_5
                  replace hx382_6 := cb HB.out hx382_6
                  replace hx382_7 := cb HB.out hx382_7
                  replace hx382_8 := cb HB.out hx382_8
                  replace hx382_9 := cb HB.out hx382_9
                  replace hx382_10 := cb HB.out hx382_10
                  replace hx382_11 := cb HB.out hx382_11
                  replace hx382_12 := cb HB.out hx382_12
                  replace hx382_13 := cb HB.out hx382_13
                  replace hx382_14 := cb HB.out hx382_14
                  replace hx382_15 := cb HB.out hx382_15
                  replace p382 := eq_true p382
                  replace q382 := eq_true q382
                  refine start_ (n:=9) (S:=fun w' => w'.cell? (ad374.add ((x5_1).toNat * 16)) = some (.int .i64 ((rd_T44 l0 x5_1).f0)) ∧ w'.cell? ⟨(ad374.add ((x5_1).toNat * 16)).block,(ad374.add ((x5_1).toNat * 16)).off + 1,none⟩ = some (.int .i64 ((rd_T44 l0 x5_1).f1)) ∧ w'.cell? ⟨(ad374.add ((x5_1).toNat * 16)).block,(ad374.add ((x5_1).toNat * 16)).off + 2,none⟩ = some (.int .i64 ((rd_T44 l0 x5_1).f2)) ∧ w'.cell? ⟨(ad374.add ((x5_1).toNat * 16)).block,(ad374.add ((x5_1).toNat * 16)).off + 3,none⟩ = some (.int .i64 ((rd_T44 l0 x5_1).f3.f0)) ∧ w'.cell? ⟨(ad374.add ((x5_1).toNat * 16)).block,(ad374.add ((x5_1).toNat * 16)).off + 4,none⟩ = some (.int .i64 ((rd_T44 l0 x5_1).f3.f1)) ∧ w'.cell? ⟨(ad374.add ((x5_1).toNat * 16)).block,(ad374.add ((x5_1).toNat * 16)).off + 5,none⟩ = some (.int .i64 ((rd_T44 l0 x5_1).f3.f2)) ∧ w'.cell? ⟨(ad374.add ((x5_1).toNat * 16)).block,(ad374.add ((x5_1).toNat * 16)).off + 6,none⟩ = some (.int .i64 ((rd_T44 l0 x5_1).f3.f3)) ∧ w'.cell? ⟨(ad374.add ((x5_1).toNat * 16)).block,(ad374.add ((x5_1).toNat * 16)).off + 7,none⟩ = some (.int .i64 ((rd_T44 l0 x5_1).f3.f4)) ∧ w'.cell? ⟨(ad374.add ((x5_1).toNat * 16)).block,(ad374.add ((x5_1).toNat * 16)).off + 8,none⟩ = some (.string ((rd_T44 l0 x5_1).f3.f5)) ∧ w'.cell? ⟨(ad374.add ((x5_1).toNat * 16)).block,(ad374.add ((x5_1).toNat * 16)).off + 9,none⟩ = some (.slice A382_9 0 c382_9) ∧ w'.cell? ⟨(ad374.add ((x5_1).toNat * 16)).block,(ad374.add ((x5_1).toNat * 16)).off + 10,none⟩ = some (.int .i64 ((rd_T44 l0 x5_1).f5.f0)) ∧ w'.cell? ⟨(ad374.add ((x5_1).toNat * 16)).block,(ad374.add ((x5_1).toNat * 16)).off + 11,none⟩ = some (.int .i64 ((rd_T44 l0 x5_1).f5.f1)) ∧ w'.cell? ⟨(ad374.add ((x5_1).toNat * 16)).block,(ad374.add ((x5_1).toNat * 16)).off + 12,none⟩ = some (.int .i64 ((rd_T44 l0 x5_1).f5.f2)) ∧ w'.cell? ⟨(ad374.add ((x5_1).toNat * 16)).block,(ad374.add ((x5_1).toNat * 16)).off + 13,none⟩ = some (.int .i64 ((rd_T44 l0 x5_1).f5.f3)) ∧ w'.cell? ⟨(ad374.add ((x5_1).toNat * 16)).block,(ad374.add ((x5_1).toNat * 16)).off + 14,none⟩ = some (.int .i64 ((rd_T44 l0 x5_1).f5.f4)) ∧ w'.cell? ⟨(ad374.add ((x5_1).toNat * 16)).block,(ad374.add ((x5_1).toNat * 16)).off + 15,none⟩ = some (.int .i64 ((rd_T44 l0 x5_1).f5.f5))) (ds := []) (bm 9 0) (by kernel_rfl) rfl rfl ⟨(cb HB.out hw382_0),(cb HB.out hw382_1),(cb HB.out hw382_2),(cb HB.out hw382_3),(cb HB.out hw382_4),(cb HB.out hw382_5),(cb HB.out hw382_6),(cb HB.out hw382_7),(cb HB.out hw382_8),(cb HB.out hw382_9),(cb HB.out hw382_10),(cb HB.out hw382_11),(cb HB.out hw382_12),(cb HB.out hw382_13),(cb HB.out hw382_14),(cb HB.out hw382_15)⟩ (fun hHeld => ?_); refine with_tabW laws_heldWorkerS.tab28 laws_heldWorkerS.bits28 (fun HT_ HW_ => ?_)
                  generalize wr.drew = w38 at HB hx382_0 hx382_1 hx382_10 hx382_11 hx382_12 hx382_13 hx382_14 hx382_15 hx382_2 hx382_3 hx382_4 hx382_5 hx382_6 hx382_7 hx382_8 hx382_9 hHeld ⊢
                  refine pV_ 0 89 (bm 9 1) HT_.out ?_
                  refine pV_ 1 90 (bm 9 3) HT_.out ?_
                  refine pV_ 2 91 (bm 9 7) HT_.out ?_
                  refine pV_ 3 92 (bm 9 15) HT_.out ?_
                  refine pV_ 4 93 (bm 9 31) HT_.out ?_
                  refine pV_ 6 95 (bm 9 95) HT_.out ?_
                  refine tk 5 94 (bm 9 127) HT_.out HW_.out hHeld ?_
                  refine one_ (i:=7) (N:=some 96) (bm 9 255) rfl rfl (one_of HT_.out (by kernel_rfl)) (by decide) (fun K hK => ?_)
                  refine goes_ Try.func41 (by kernel_rfl) rfl #[.int .i64 (wrap64 ((wrap64 ((wrap64 ((wrap64 ((wrap64 ((wrap64 ((wrap64 ((wrap64 (x1_1 + 1)) + 1)) + 1)) + 1)) + 1)) + 1)) + 1)) + 1))] (by rfl) rfl rfl mA ?_
                  with_reducible refine (laws_markText.calls k1 (wrap64 ((wrap64 ((wrap64 ((wrap64 ((wrap64 ((wrap64 ((wrap64 ((wrap64 (x1_1 + 1)) + 1)) + 1)) + 1)) + 1)) + 1)) + 1)) + 1)) t383 _ A13.out).mono ?_
                  rintro e w39 ⟨rfl,hb⟩
                  refine ⟨_,rfl,?_⟩
                  replace HB := bsA hb
                  clear hb
                  refine hK.out _ _ ⟨(cb HB.out hw382_0),(cb HB.out hw382_1),(cb HB.out hw382_2),(cb HB.out hw382_3),(cb HB.out hw382_4),(cb HB.out hw382_5),(cb HB.out hw382_6),(cb HB.out hw382_7),(cb HB.out hw382_8),(cb HB.out hw382_9),(cb HB.out hw382_10),(cb HB.out hw382_11),(cb HB.out hw382_12),(cb HB.out hw382_13),(cb HB.out hw382_14),(cb HB.out hw382_15)⟩ (fun hHeld => ?_)
                  clear hK K
                  refine nw 96 ?_
                  refine pV_ 8 97 (bm 9 511) HT_.out ?_
                  refine done_ (done_of HT_.out (by kernel_rfl)) ?_
                  have p384 : 0 ≤ (x5_1 : Int) := od
                  have q384 : x5_1 < (l0.length : Int) := od
                  obtain ⟨ad384,A384_9,c384_9,e384,hx384_0,hx384_1,hx384_2,hx384_3,hx384_4,hx384_5,hx384_6,hx384_7,hx384_8,hx384_9,hx384_10,hx384_11,hx384_12,hx384_13,hx384_14,hx384_15⟩ := at_T44 HR0.out x5_1 p384 q384
                  obtain rfl : ad374 = ad384 := (by injection e384)
                  have ea_ := Option.some.inj (hw382_9.symm.trans hx384_9)
                  obtain ⟨eb_,ec_⟩ := kEmp_inj ea_
                  subst eb_
                  subst ec_
                  clear ea_
                  replace hx384_0 := cb HB.out hx384_0
                  replace hx384_1 := cb HB.out hx384_1
                  replace hx384_2 := cb HB.out hx384_2
                  replace hx384_3 := cb HB.out hx384_3
                  replace hx384_4 := cb HB.out hx384_4
                  replace hx384_5 := cb HB.out hx384_5
                  replace hx384_6 := cb HB.out hx384_6
                  replace hx384_7 := cb HB.out hx384_7
                  replace hx384_8 := cb HB.out hx384_8
                  replace hx384_9 := cb HB.out hx384_9
                  replace hx384_10 := cb HB.out hx384_10
                  replace hx384_11 := cb HB.out hx384_11
                  replace hx384_12 := cb HB.out hx384_12
                  replace hx384_13 := cb HB.out hx384_13
                  replace hx384_14 := cb HB.out hx384_14
                  replace hx384_15 := cb HB.out hx384_15
                  replace p384 := eq_true p384
                  replace q384 := eq_true q384
                  try go_wp2_with (first | ((with_reducible refine gate_callee (f:=44) rfl ?_); refine goesL_ (some 106) rfl rfl Try.func44 (by kernel_rfl) rfl #[.slice A382_9 0 c382_9,.int .i64 (wrap64 ((wrap64 ((wrap64 ((wrap64 ((wrap64 ((wrap64 ((wrap64 ((wrap64 ((wrap64 (x1_1 + 1)) + 1)) + 1)) + 1)) + 1)) + 1)) + 1)) + 1)) + 1))] rfl mA ?_; (refine (laws_heldEntryS.calls k1 _ _ ([] : List (S90)) (wrap64 ((wrap64 ((wrap64 ((wrap64 ((wrap64 ((wrap64 ((wrap64 ((wrap64 ((wrap64 (x1_1 + 1)) + 1)) + 1)) + 1)) + 1)) + 1)) + 1)) + 1)) + 1)) t385 _ ?side1 ?side2 A15.out).mono ?_); (case side1 => exact kEmp_C _ _ _); (case side2 => exact Nat.zero_le _); rintro e w40 ⟨rfl,hb⟩; refine ⟨_,rfl,?_⟩; replace HB := bsA hb; clear hb; have p386 : 0 ≤ (x5_1 : Int) := od; have q386 : x5_1 < (l0.length : Int) := od; obtain ⟨ad386,A386_9,c386_9,e386,hx386_0,hx386_1,hx386_2,hx386_3,hx386_4,hx386_5,hx386_6,hx386_7,hx386_8,hx386_9,hx386_10,hx386_11,hx386_12,hx386_13,hx386_14,hx386_15⟩ := at_T44 HR0.out x5_1 p386 q386; obtain rfl : ad374 = ad386 := (by injection e386); have ea_ := Option.some.inj (hw382_9.symm.trans hx386_9); obtain ⟨eb_,ec_⟩ := kEmp_inj ea_; subst eb_; subst ec_; clear ea_; replace hx386_0 := cb HB.out hx386_0; replace hx386_1 := cb HB.out hx386_1; replace hx386_2 := cb HB.out hx386_2; replace hx386_3 := cb HB.out hx386_3; replace hx386_4 := cb HB.out hx386_4; replace hx386_5 := cb HB.out hx386_5; replace hx386_6 := cb HB.out hx386_6; replace hx386_7 := cb HB.out hx386_7; replace hx386_8 := cb HB.out hx386_8; replace hx386_9 := cb HB.out hx386_9; replace hx386_10 := cb HB.out hx386_10; replace hx386_11 := cb HB.out hx386_11; replace hx386_12 := cb HB.out hx386_12; replace hx386_13 := cb HB.out hx386_13; replace hx386_14 := cb HB.out hx386_14; replace hx386_15 := cb HB.out hx386_15; replace p386 := eq_true p386; replace q386 := eq_true q386))
                  go_ret
                  exact ⟨by first | rfl | (simp only [i64_w,i32_w] <;> rfl) | (simp [errW_none,errW_some] <;> rfl) | (simp [*,errW_none,errW_some] <;> rfl),bA⟩
                ·rw [if_neg c21] at H
                 have c21b0 : (((rd_T44 l0 x5_1).f5.f1) == (wrap64 (t385 + 1))) = false := beq_eq_false_iff_ne.mpr c21
                 have c21b1 : (((rd_T44 l0 x5_1).f5.f1) != (wrap64 (t385 + 1))) = true := bne_iff_ne.mpr c21
                 obtain rfl := Option.some.inj H
                 have p374 : 0 ≤ (x5_1 : Int) := od
                 have q374 : x5_1 < (l0.length : Int) := od
                 obtain ⟨ad374,A374_9,c374_9,e374,hx374_0,hx374_1,hx374_2,hx374_3,hx374_4,hx374_5,hx374_6,hx374_7,hx374_8,hx374_9,hx374_10,hx374_11,hx374_12,hx374_13,hx374_14,hx374_15⟩ := at_T44 HR0.out x5_1 p374 q374
                 cases e374
                 replace hx374_0 := cb HB.out hx374_0
                 replace hx374_1 := cb HB.out hx374_1
                 replace hx374_2 := cb HB.out hx374_2
                 replace hx374_3 := cb HB.out hx374_3
                 replace hx374_4 := cb HB.out hx374_4
                 replace hx374_5 := cb HB.out hx374_5
                 replace hx374_6 := cb HB.out hx374_6
                 replace hx374_7 := cb HB.out hx374_7
                 replace hx374_8 := cb HB.out hx374_8
                 replace hx374_9 := cb HB.out hx374_9
                 replace hx374_10 := cb HB.out hx374_10
                 replace hx374_11 := cb HB.out hx374_11
                 replace hx374_12 := cb HB.out hx374_12
                 replace hx374_13 := cb HB.out hx374_13
                 replace hx374_14 := cb HB.out hx374_14
                 replace hx374_15 := cb HB.out hx374_15
                 replace p374 := eq_true p374
                 replace q374 := eq_true q374
                 try go_wp2
                 replace HB := Aside0.mk (below_drew1 HB.out)
                 have p382 : 0 ≤ (x5_1 : Int) := od
                 have q382 : x5_1 < (l0.length : Int) := od
                 obtain ⟨ad382,A382_9,c382_9,e382,hx382_0,hx382_1,hx382_2,hx382_3,hx382_4,hx382_5,hx382_6,hx382_7,hx382_8,hx382_9,hx382_10,hx382_11,hx382_12,hx382_13,hx382_14,hx382_15⟩ := at_T44 HR0.out x5_1 p382 q382
                 have hw382_15 := hx382_15
                 have hw382_14 := hx382_14
                 have hw382_13 := hx382_13
                 have hw382_12 := hx382_12
                 have hw382_11 := hx382_11
                 have hw382_10 := hx382_10
                 have hw382_9 := hx382_9
                 have hw382_8 := hx382_8
                 have hw382_7 := hx382_7
                 have hw382_6 := hx382_6
                 have hw382_5 := hx382_5
                 have hw382_4 := hx382_4
                 have hw382_3 := hx382_3
                 have hw382_2 := hx382_2
                 have hw382_1 := hx382_1
                 have hw382_0 := hx382_0
                 obtain rfl : ad374 = ad382 := (by injection e382)
                 replace hx382_0 := cb HB.out hx382_0
                 replace hx382_1 := cb HB.out hx382_1
                 replace hx382_2 := cb HB.out hx382_2
                 replace hx382_3 := cb HB.out hx382_3
                 replace hx382_4 := cb HB.out hx382_4
                 replace hx382_5 := cb HB.out hx382_5
                 replace hx382_6 := cb HB.out hx382_6
                 replace hx382_7 := cb HB.out hx382_7
                 replace hx382_8 := cb HB.out hx382_8
                 replace hx382_9 := cb HB.out hx382_9
                 replace hx382_10 := cb HB.out hx382_10
                 replace hx382_11 := cb HB.out hx382_11
                 replace hx382_12 := cb HB.out hx382_12
                 replace hx382_13 := cb HB.out hx382_13
                 replace hx382_14 := cb HB.out hx382_14
                 replace hx382_15 := cb HB.out hx382_15
                 replace p382 := eq_true p382
                 replace q382 := eq_true q382
                 refine start_ (n:=9) (S:=fun w' => w'.cell? (ad374.add ((x5_1).toNat * 16)) = some (.int .i64 ((rd_T44 l0 x5_1).f0)) ∧ w'.cell? ⟨(ad374.add ((x5_1).toNat * 16)).block,(ad374.add ((x5_1).toNat * 16)).off + 1,none⟩ = some (.int .i64 ((rd_T44 l0 x5_1).f1)) ∧ w'.cell? ⟨(ad374.add ((x5_1).toNat * 16)).block,(ad374.add ((x5_1).toNat * 16)).off + 2,none⟩ = some (.int .i64 ((rd_T44 l0 x5_1).f2)) ∧ w'.cell? ⟨(ad374.add ((x5_1).toNat * 16)).block,(ad374.add ((x5_1).toNat * 16)).off + 3,none⟩ = some (.int .i64 ((rd_T44 l0 x5_1).f3.f0)) ∧ w'.cell? ⟨(ad374.add ((x5_1).toNat * 16)).block,(ad374.add ((x5_1).toNat * 16)).off + 4,none⟩ = some (.int .i64 ((rd_T44 l0 x5_1).f3.f1)) ∧ w'.cell? ⟨(ad374.add ((x5_1).toNat * 16)).block,(ad374.add ((x5_1).toNat * 16)).off + 5,none⟩ = some (.int .i64 ((rd_T44 l0 x5_1).f3.f2)) ∧ w'.cell? ⟨(ad374.add ((x5_1).toNat * 16)).block,(ad374.add ((x5_1).toNat * 16)).off + 6,none⟩ = some (.int .i64 ((rd_T44 l0 x5_1).f3.f3)) ∧ w'.cell? ⟨(ad374.add ((x5_1).toNat * 16)).block,(ad374.add ((x5_1).toNat * 16)).off + 7,none⟩ = some (.int .i64 ((rd_T44 l0 x5_1).f3.f4)) ∧ w'.cell? ⟨(ad374.add ((x5_1).toNat * 16)).block,(ad374.add ((x5_1).toNat * 16)).off + 8,none⟩ = some (.string ((rd_T44 l0 x5_1).f3.f5)) ∧ w'.cell? ⟨(ad374.add ((x5_1).toNat * 16)).block,(ad374.add ((x5_1).toNat * 16)).off + 9,none⟩ = some (.slice A382_9 0 c382_9) ∧ w'.cell? ⟨(ad374.add ((x5_1).toNat * 16)).block,(ad374.add ((x5_1).toNat * 16)).off + 10,none⟩ = some (.int .i64 ((rd_T44 l0 x5_1).f5.f0)) ∧ w'.cell? ⟨(ad374.add ((x5_1).toNat * 16)).block,(ad374.add ((x5_1).toNat * 16)).off + 11,none⟩ = some (.int .i64 ((rd_T44 l0 x5_1).f5.f1)) ∧ w'.cell? ⟨(ad374.add ((x5_1).toNat * 16)).block,(ad374.add ((x5_1).toNat * 16)).off + 12,none⟩ = some (.int .i64 ((rd_T44 l0 x5_1).f5.f2)) ∧ w'.cell? ⟨(ad374.add ((x5_1).toNat * 16)).block,(ad374.add ((x5_1).toNat * 16)).off + 13,none⟩ = some (.int .i64 ((rd_T44 l0 x5_1).f5.f3)) ∧ w'.cell? ⟨(ad374.add ((x5_1).toNat * 16)).block,(ad374.add ((x5_1).toNat * 16)).off + 14,none⟩ = some (.int .i64 ((rd_T44 l0 x5_1).f5.f4)) ∧ w'.cell? ⟨(ad374.add ((x5_1).toNat * 16)).block,(ad374.add ((x5_1).toNat * 16)).off + 15,none⟩ = some (.int .i64 ((rd_T44 l0 x5_1).f5.f5))) (ds := []) (bm 9 0) (by kernel_rfl) rfl rfl ⟨(cb HB.out hw382_0),(cb HB.out hw382_1),(cb HB.out hw382_2),(cb HB.out hw382_3),(cb HB.out hw382_4),(cb HB.out hw382_5),(cb HB.out hw382_6),(cb HB.out hw382_7),(cb HB.out hw382_8),(cb HB.out hw382_9),(cb HB.out hw382_10),(cb HB.out hw382_11),(cb HB.out hw382_12),(cb HB.out hw382_13),(cb HB.out hw382_14),(cb HB.out hw382_15)⟩ (fun hHeld => ?_); refine with_tabW laws_heldWorkerS.tab28 laws_heldWorkerS.bits28 (fun HT_ HW_ => ?_)
                 generalize wr.drew = w41 at HB hx382_0 hx382_1 hx382_10 hx382_11 hx382_12 hx382_13 hx382_14 hx382_15 hx382_2 hx382_3 hx382_4 hx382_5 hx382_6 hx382_7 hx382_8 hx382_9 hHeld ⊢
                 refine pV_ 0 89 (bm 9 1) HT_.out ?_
                 refine pV_ 1 90 (bm 9 3) HT_.out ?_
                 refine pV_ 2 91 (bm 9 7) HT_.out ?_
                 refine pV_ 3 92 (bm 9 15) HT_.out ?_
                 refine pV_ 4 93 (bm 9 31) HT_.out ?_
                 refine pV_ 6 95 (bm 9 95) HT_.out ?_
                 refine tk 5 94 (bm 9 127) HT_.out HW_.out hHeld ?_
                 refine one_ (i:=7) (N:=some 96) (bm 9 255) rfl rfl (one_of HT_.out (by kernel_rfl)) (by decide) (fun K hK => ?_)
                 refine goes_ Try.func41 (by kernel_rfl) rfl #[.int .i64 (wrap64 ((wrap64 ((wrap64 ((wrap64 ((wrap64 ((wrap64 ((wrap64 ((wrap64 (x1_1 + 1)) + 1)) + 1)) + 1)) + 1)) + 1)) + 1)) + 1))] (by rfl) rfl rfl mA ?_
                 with_reducible refine (laws_markText.calls k1 (wrap64 ((wrap64 ((wrap64 ((wrap64 ((wrap64 ((wrap64 ((wrap64 ((wrap64 (x1_1 + 1)) + 1)) + 1)) + 1)) + 1)) + 1)) + 1)) + 1)) t383 _ A13.out).mono ?_
                 rintro e w42 ⟨rfl,hb⟩
                 refine ⟨_,rfl,?_⟩
                 replace HB := bsA hb
                 clear hb
                 refine hK.out _ _ ⟨(cb HB.out hw382_0),(cb HB.out hw382_1),(cb HB.out hw382_2),(cb HB.out hw382_3),(cb HB.out hw382_4),(cb HB.out hw382_5),(cb HB.out hw382_6),(cb HB.out hw382_7),(cb HB.out hw382_8),(cb HB.out hw382_9),(cb HB.out hw382_10),(cb HB.out hw382_11),(cb HB.out hw382_12),(cb HB.out hw382_13),(cb HB.out hw382_14),(cb HB.out hw382_15)⟩ (fun hHeld => ?_)
                 clear hK K
                 refine nw 96 ?_
                 refine pV_ 8 97 (bm 9 511) HT_.out ?_
                 refine done_ (done_of HT_.out (by kernel_rfl)) ?_
                 have p384 : 0 ≤ (x5_1 : Int) := od
                 have q384 : x5_1 < (l0.length : Int) := od
                 obtain ⟨ad384,A384_9,c384_9,e384,hx384_0,hx384_1,hx384_2,hx384_3,hx384_4,hx384_5,hx384_6,hx384_7,hx384_8,hx384_9,hx384_10,hx384_11,hx384_12,hx384_13,hx384_14,hx384_15⟩ := at_T44 HR0.out x5_1 p384 q384
                 obtain rfl : ad374 = ad384 := (by injection e384)
                 have ea_ := Option.some.inj (hw382_9.symm.trans hx384_9)
                 obtain ⟨eb_,ec_⟩ := kEmp_inj ea_
                 subst eb_
                 subst ec_
                 clear ea_
                 replace hx384_0 := cb HB.out hx384_0
                 replace hx384_1 := cb HB.out hx384_1
                 replace hx384_2 := cb HB.out hx384_2
                 replace hx384_3 := cb HB.out hx384_3
                 replace hx384_4 := cb HB.out hx384_4
                 replace hx384_5 := cb HB.out hx384_5
                 replace hx384_6 := cb HB.out hx384_6
                 replace hx384_7 := cb HB.out hx384_7
                 replace hx384_8 := cb HB.out hx384_8
                 replace hx384_9 := cb HB.out hx384_9
                 replace hx384_10 := cb HB.out hx384_10
                 replace hx384_11 := cb HB.out hx384_11
                 replace hx384_12 := cb HB.out hx384_12
                 replace hx384_13 := cb HB.out hx384_13
                 replace hx384_14 := cb HB.out hx384_14
                 replace hx384_15 := cb HB.out hx384_15
                 replace p384 := eq_true p384
                 replace q384 := eq_true q384
                 try go_wp2_with (first | ((with_reducible refine gate_callee (f:=44) rfl ?_); refine goesL_ (some 106) rfl rfl Try.func44 (by kernel_rfl) rfl #[.slice A382_9 0 c382_9,.int .i64 (wrap64 ((wrap64 ((wrap64 ((wrap64 ((wrap64 ((wrap64 ((wrap64 ((wrap64 ((wrap64 (x1_1 + 1)) + 1)) + 1)) + 1)) + 1)) + 1)) + 1)) + 1)) + 1))] rfl mA ?_; (refine (laws_heldEntryS.calls k1 _ _ ([] : List (S90)) (wrap64 ((wrap64 ((wrap64 ((wrap64 ((wrap64 ((wrap64 ((wrap64 ((wrap64 ((wrap64 (x1_1 + 1)) + 1)) + 1)) + 1)) + 1)) + 1)) + 1)) + 1)) + 1)) t385 _ ?side1 ?side2 A15.out).mono ?_); (case side1 => exact kEmp_C _ _ _); (case side2 => exact Nat.zero_le _); rintro e w43 ⟨rfl,hb⟩; refine ⟨_,rfl,?_⟩; replace HB := bsA hb; clear hb; have p386 : 0 ≤ (x5_1 : Int) := od; have q386 : x5_1 < (l0.length : Int) := od; obtain ⟨ad386,A386_9,c386_9,e386,hx386_0,hx386_1,hx386_2,hx386_3,hx386_4,hx386_5,hx386_6,hx386_7,hx386_8,hx386_9,hx386_10,hx386_11,hx386_12,hx386_13,hx386_14,hx386_15⟩ := at_T44 HR0.out x5_1 p386 q386; obtain rfl : ad374 = ad386 := (by injection e386); have ea_ := Option.some.inj (hw382_9.symm.trans hx386_9); obtain ⟨eb_,ec_⟩ := kEmp_inj ea_; subst eb_; subst ec_; clear ea_; replace hx386_0 := cb HB.out hx386_0; replace hx386_1 := cb HB.out hx386_1; replace hx386_2 := cb HB.out hx386_2; replace hx386_3 := cb HB.out hx386_3; replace hx386_4 := cb HB.out hx386_4; replace hx386_5 := cb HB.out hx386_5; replace hx386_6 := cb HB.out hx386_6; replace hx386_7 := cb HB.out hx386_7; replace hx386_8 := cb HB.out hx386_8; replace hx386_9 := cb HB.out hx386_9; replace hx386_10 := cb HB.out hx386_10; replace hx386_11 := cb HB.out hx386_11; replace hx386_12 := cb HB.out hx386_12; replace hx386_13 := cb HB.out hx386_13; replace hx386_14 := cb HB.out hx386_14; replace hx386_15 := cb HB.out hx386_15; replace p386 := eq_true p386; replace q386 := eq_true q386))
                 go_ret
                 exact ⟨by first | rfl | (simp only [i64_w,i32_w] <;> rfl) | (simp [errW_none,errW_some] <;> rfl) | (simp [*,errW_none,errW_some] <;> rfl),bA⟩
               ·rw [if_neg c20] at H
                have c20b0 : (((rd_T44 l0 x5_1).f5.f0) == t385) = false := beq_eq_false_iff_ne.mpr c20
                have c20b1 : (((rd_T44 l0 x5_1).f5.f0) != t385) = true := bne_iff_ne.mpr c20
                obtain rfl := Option.some.inj H
                have p374 : 0 ≤ (x5_1 : Int) := od
                have q374 : x5_1 < (l0.length : Int) := od
                obtain ⟨ad374,A374_9,c374_9,e374,hx374_0,hx374_1,hx374_2,hx374_3,hx374_4,hx374_5,hx374_6,hx374_7,hx374_8,hx374_9,hx374_10,hx374_11,hx374_12,hx374_13,hx374_14,hx374_15⟩ := at_T44 HR0.out x5_1 p374 q374
                cases e374
                replace hx374_0 := cb HB.out hx374_0
                replace hx374_1 := cb HB.out hx374_1
                replace hx374_2 := cb HB.out hx374_2
                replace hx374_3 := cb HB.out hx374_3
                replace hx374_4 := cb HB.out hx374_4
                replace hx374_5 := cb HB.out hx374_5
                replace hx374_6 := cb HB.out hx374_6
                replace hx374_7 := cb HB.out hx374_7
                replace hx374_8 := cb HB.out hx374_8
                replace hx374_9 := cb HB.out hx374_9
                replace hx374_10 := cb HB.out hx374_10
                replace hx374_11 := cb HB.out hx374_11
                replace hx374_12 := cb HB.out hx374_12
                replace hx374_13 := cb HB.out hx374_13
                replace hx374_14 := cb HB.out hx374_14
                replace hx374_15 := cb HB.out hx374_15
                replace p374 := eq_true p374
                replace q374 := eq_true q374
                try go_wp2
                replace HB := Aside0.mk (below_drew1 HB.out)
                have p382 : 0 ≤ (x5_1 : Int) := od
                have q382 : x5_1 < (l0.length : Int) := od
                obtain ⟨ad382,A382_9,c382_9,e382,hx382_0,hx382_1,hx382_2,hx382_3,hx382_4,hx382_5,hx382_6,hx382_7,hx382_8,hx382_9,hx382_10,hx382_11,hx382_12,hx382_13,hx382_14,hx382_15⟩ := at_T44 HR0.out x5_1 p382 q382
                have hw382_15 := hx382_15
                have hw382_14 := hx382_14
                have hw382_13 := hx382_13
                have hw382_12 := hx382_12
                have hw382_11 := hx382_11
                have hw382_10 := hx382_10
                have hw382_9 := hx382_9
                have hw382_8 := hx382_8
                have hw382_7 := hx382_7
                have hw382_6 := hx382_6
                have hw382_5 := hx382_5
                have hw382_4 := hx382_4
                have hw382_3 := hx382_3
                have hw382_2 := hx382_2
                have hw382_1 := hx382_1
                have hw382_0 := hx382_0
                obtain rfl : ad374 = ad382 := (by injection e382)
                replace hx382_0 := cb HB.out hx382_0
                replace hx382_1 := cb HB.out hx382_1
                replace hx382_2 := cb HB.out hx382_2
                replace hx382_3 := cb HB.out hx382_3
                replace hx382_4 := cb HB.out hx382_4
                replace hx382_5 := cb HB.out hx382_5
                replace hx382_6 := cb HB.out hx382_6
                replace hx382_7 := cb HB.out hx382_7
                replace hx382_8 := cb HB.out hx382_8
                replace hx382_9 := cb HB.out hx382_9
                replace hx382_10 := cb HB.out hx382_10
                replace hx382_11 := cb HB.out hx382_11
                replace hx382_12 := cb HB.out hx382_12
                replace hx382_13 := cb HB.out hx382_13
                replace hx382_14 := cb HB.out hx382_14
                replace hx382_15 := cb HB.out hx382_15
                replace p382 := eq_true p382
                replace q382 := eq_true q382
                refine start_ (n:=9) (S:=fun w' => w'.cell? (ad374.add ((x5_1).toNat * 16)) = some (.int .i64 ((rd_T44 l0 x5_1).f0)) ∧ w'.cell? ⟨(ad374.add ((x5_1).toNat * 16)).block,(ad374.add ((x5_1).toNat * 16)).off + 1,none⟩ = some (.int .i64 ((rd_T44 l0 x5_1).f1)) ∧ w'.cell? ⟨(ad374.add ((x5_1).toNat * 16)).block,(ad374.add ((x5_1).toNat * 16)).off + 2,none⟩ = some (.int .i64 ((rd_T44 l0 x5_1).f2)) ∧ w'.cell? ⟨(ad374.add ((x5_1).toNat * 16)).block,(ad374.add ((x5_1).toNat * 16)).off + 3,none⟩ = some (.int .i64 ((rd_T44 l0 x5_1).f3.f0)) ∧ w'.cell? ⟨(ad374.add ((x5_1).toNat * 16)).block,(ad374.add ((x5_1).toNat * 16)).off + 4,none⟩ = some (.int .i64 ((rd_T44 l0 x5_1).f3.f1)) ∧ w'.cell? ⟨(ad374.add ((x5_1).toNat * 16)).block,(ad374.add ((x5_1).toNat * 16)).off + 5,none⟩ = some (.int .i64 ((rd_T44 l0 x5_1).f3.f2)) ∧ w'.cell? ⟨(ad374.add ((x5_1).toNat * 16)).block,(ad374.add ((x5_1).toNat * 16)).off + 6,none⟩ = some (.int .i64 ((rd_T44 l0 x5_1).f3.f3)) ∧ w'.cell? ⟨(ad374.add ((x5_1).toNat * 16)).block,(ad374.add ((x5_1).toNat * 16)).off + 7,none⟩ = some (.int .i64 ((rd_T44 l0 x5_1).f3.f4)) ∧ w'.cell? ⟨(ad374.add ((x5_1).toNat * 16)).block,(ad374.add ((x5_1).toNat * 16)).off + 8,none⟩ = some (.string ((rd_T44 l0 x5_1).f3.f5)) ∧ w'.cell? ⟨(ad374.add ((x5_1).toNat * 16)).block,(ad374.add ((x5_1).toNat * 16)).off + 9,none⟩ = some (.slice A382_9 0 c382_9) ∧ w'.cell? ⟨(ad374.add ((x5_1).toNat * 16)).block,(ad374.add ((x5_1).toNat * 16)).off + 10,none⟩ = some (.int .i64 ((rd_T44 l0 x5_1).f5.f0)) ∧ w'.cell? ⟨(ad374.add ((x5_1).toNat * 16)).block,(ad374.add ((x5_1).toNat * 16)).off + 11,none⟩ = some (.int .i64 ((rd_T44 l0 x5_1).f5.f1)) ∧ w'.cell? ⟨(ad374.add ((x5_1).toNat * 16)).block,(ad374.add ((x5_1).toNat * 16)).off + 12,none⟩ = some (.int .i64 ((rd_T44 l0 x5_1).f5.f2)) ∧ w'.cell? ⟨(ad374.add ((x5_1).toNat * 16)).block,(ad374.add ((x5_1).toNat * 16)).off + 13,none⟩ = some (.int .i64 ((rd_T44 l0 x5_1).f5.f3)) ∧ w'.cell? ⟨(ad374.add ((x5_1).toNat * 16)).block,(ad374.add ((x5_1).toNat * 16)).off + 14,none⟩ = some (.int .i64 ((rd_T44 l0 x5_1).f5.f4)) ∧ w'.cell? ⟨(ad374.add ((x5_1).toNat * 16)).block,(ad374.add ((x5_1).toNat * 16)).off + 15,none⟩ = some (.int .i64 ((rd_T44 l0 x5_1).f5.f5))) (ds := []) (bm 9 0) (by kernel_rfl) rfl rfl ⟨(cb HB.out hw382_0),(cb HB.out hw382_1),(cb HB.out hw382_2),(cb HB.out hw382_3),(cb HB.out hw382_4),(cb HB.out hw382_5),(cb HB.out hw382_6),(cb HB.out hw382_7),(cb HB.out hw382_8),(cb HB.out hw382_9),(cb HB.out hw382_10),(cb HB.out hw382_11),(cb HB.out hw382_12),(cb HB.out hw382_13),(cb HB.out hw382_14),(cb HB.out hw382_15)⟩ (fun hHeld => ?_); refine with_tabW laws_heldWorkerS.tab28 laws_heldWorkerS.bits28 (fun HT_ HW_ => ?_)
                generalize wr.drew = w44 at HB hx382_0 hx382_1 hx382_10 hx382_11 hx382_12 hx382_13 hx382_14 hx382_15 hx382_2 hx382_3 hx382_4 hx382_5 hx382_6 hx382_7 hx382_8 hx382_9 hHeld ⊢
                refine pV_ 0 89 (bm 9 1) HT_.out ?_
                refine pV_ 1 90 (bm 9 3) HT_.out ?_
                refine pV_ 2 91 (bm 9 7) HT_.out ?_
                refine pV_ 3 92 (bm 9 15) HT_.out ?_
                refine pV_ 4 93 (bm 9 31) HT_.out ?_
                refine pV_ 6 95 (bm 9 95) HT_.out ?_
                refine tk 5 94 (bm 9 127) HT_.out HW_.out hHeld ?_
                refine one_ (i:=7) (N:=some 96) (bm 9 255) rfl rfl (one_of HT_.out (by kernel_rfl)) (by decide) (fun K hK => ?_)
                refine goes_ Try.func41 (by kernel_rfl) rfl #[.int .i64 (wrap64 ((wrap64 ((wrap64 ((wrap64 ((wrap64 ((wrap64 ((wrap64 ((wrap64 (x1_1 + 1)) + 1)) + 1)) + 1)) + 1)) + 1)) + 1)) + 1))] (by rfl) rfl rfl mA ?_
                with_reducible refine (laws_markText.calls k1 (wrap64 ((wrap64 ((wrap64 ((wrap64 ((wrap64 ((wrap64 ((wrap64 ((wrap64 (x1_1 + 1)) + 1)) + 1)) + 1)) + 1)) + 1)) + 1)) + 1)) t383 _ A13.out).mono ?_
                rintro e w45 ⟨rfl,hb⟩
                refine ⟨_,rfl,?_⟩
                replace HB := bsA hb
                clear hb
                refine hK.out _ _ ⟨(cb HB.out hw382_0),(cb HB.out hw382_1),(cb HB.out hw382_2),(cb HB.out hw382_3),(cb HB.out hw382_4),(cb HB.out hw382_5),(cb HB.out hw382_6),(cb HB.out hw382_7),(cb HB.out hw382_8),(cb HB.out hw382_9),(cb HB.out hw382_10),(cb HB.out hw382_11),(cb HB.out hw382_12),(cb HB.out hw382_13),(cb HB.out hw382_14),(cb HB.out hw382_15)⟩ (fun hHeld => ?_)
                clear hK K
                refine nw 96 ?_
                refine pV_ 8 97 (bm 9 511) HT_.out ?_
                refine done_ (done_of HT_.out (by kernel_rfl)) ?_
                have p384 : 0 ≤ (x5_1 : Int) := od
                have q384 : x5_1 < (l0.length : Int) := od
                obtain ⟨ad384,A384_9,c384_9,e384,hx384_0,hx384_1,hx384_2,hx384_3,hx384_4,hx384_5,hx384_6,hx384_7,hx384_8,hx384_9,hx384_10,hx384_11,hx384_12,hx384_13,hx384_14,hx384_15⟩ := at_T44 HR0.out x5_1 p384 q384
                obtain rfl : ad374 = ad384 := (by injection e384)
                have ea_ := Option.some.inj (hw382_9.symm.trans hx384_9)
                obtain ⟨eb_,ec_⟩ := kEmp_inj ea_
                subst eb_
                subst ec_
                clear ea_
                replace hx384_0 := cb HB.out hx384_0
                replace hx384_1 := cb HB.out hx384_1
                replace hx384_2 := cb HB.out hx384_2
                replace hx384_3 := cb HB.out hx384_3
                replace hx384_4 := cb HB.out hx384_4
                replace hx384_5 := cb HB.out hx384_5
                replace hx384_6 := cb HB.out hx384_6
                replace hx384_7 := cb HB.out hx384_7
                replace hx384_8 := cb HB.out hx384_8
                replace hx384_9 := cb HB.out hx384_9
                replace hx384_10 := cb HB.out hx384_10
                replace hx384_11 := cb HB.out hx384_11
                replace hx384_12 := cb HB.out hx384_12
                replace hx384_13 := cb HB.out hx384_13
                replace hx384_14 := cb HB.out hx384_14
                replace hx384_15 := cb HB.out hx384_15
                replace p384 := eq_true p384
                replace q384 := eq_true q384
                try go_wp2_with (first | ((with_reducible refine gate_callee (f:=44) rfl ?_); refine goesL_ (some 106) rfl rfl Try.func44 (by kernel_rfl) rfl #[.slice A382_9 0 c382_9,.int .i64 (wrap64 ((wrap64 ((wrap64 ((wrap64 ((wrap64 ((wrap64 ((wrap64 ((wrap64 ((wrap64 (x1_1 + 1)) + 1)) + 1)) + 1)) + 1)) + 1)) + 1)) + 1)) + 1))] rfl mA ?_; (refine (laws_heldEntryS.calls k1 _ _ ([] : List (S90)) (wrap64 ((wrap64 ((wrap64 ((wrap64 ((wrap64 ((wrap64 ((wrap64 ((wrap64 ((wrap64 (x1_1 + 1)) + 1)) + 1)) + 1)) + 1)) + 1)) + 1)) + 1)) + 1)) t385 _ ?side1 ?side2 A15.out).mono ?_); (case side1 => exact kEmp_C _ _ _); (case side2 => exact Nat.zero_le _); rintro e w46 ⟨rfl,hb⟩; refine ⟨_,rfl,?_⟩; replace HB := bsA hb; clear hb; have p386 : 0 ≤ (x5_1 : Int) := od; have q386 : x5_1 < (l0.length : Int) := od; obtain ⟨ad386,A386_9,c386_9,e386,hx386_0,hx386_1,hx386_2,hx386_3,hx386_4,hx386_5,hx386_6,hx386_7,hx386_8,hx386_9,hx386_10,hx386_11,hx386_12,hx386_13,hx386_14,hx386_15⟩ := at_T44 HR0.out x5_1 p386 q386; obtain rfl : ad374 = ad386 := (by injection e386); have ea_ := Option.some.inj (hw382_9.symm.trans hx386_9); obtain ⟨eb_,ec_⟩ := kEmp_inj ea_; subst eb_; subst ec_; clear ea_; replace hx386_0 := cb HB.out hx386_0; replace hx386_1 := cb HB.out hx386_1; replace hx386_2 := cb HB.out hx386_2; replace hx386_3 := cb HB.out hx386_3; replace hx386_4 := cb HB.out hx386_4; replace hx386_5 := cb HB.out hx386_5; replace hx386_6 := cb HB.out hx386_6; replace hx386_7 := cb HB.out hx386_7; replace hx386_8 := cb HB.out hx386_8; replace hx386_9 := cb HB.out hx386_9; replace hx386_10 := cb HB.out hx386_10; replace hx386_11 := cb HB.out hx386_11; replace hx386_12 := cb HB.out hx386_12; replace hx386_13 := cb HB.out hx386_13; replace hx386_14 := cb HB.out hx386_14; replace hx386_15 := cb HB.out hx386_15; replace p386 := eq_true p386; replace q386 := eq_true q386))
                go_ret
                exact ⟨by first | rfl | (simp only [i64_w,i32_w] <;> rfl) | (simp [errW_none,errW_some] <;> rfl) | (simp [*,errW_none,errW_some] <;> rfl),bA⟩
             ·rw [if_neg c14] at H
              have c14b0 : (((rd_T44 l0 x5_1).f3.f5).toList == t383.toList) = false := beq_eq_false_iff_ne.mpr c14
              have c14b1 : (((rd_T44 l0 x5_1).f3.f5).toList != t383.toList) = true := bne_iff_ne.mpr c14
              obtain rfl := Option.some.inj H
              have p374 : 0 ≤ (x5_1 : Int) := od
              have q374 : x5_1 < (l0.length : Int) := od
              obtain ⟨ad374,A374_9,c374_9,e374,hx374_0,hx374_1,hx374_2,hx374_3,hx374_4,hx374_5,hx374_6,hx374_7,hx374_8,hx374_9,hx374_10,hx374_11,hx374_12,hx374_13,hx374_14,hx374_15⟩ := at_T44 HR0.out x5_1 p374 q374
              cases e374
              replace hx374_0 := cb HB.out hx374_0
              replace hx374_1 := cb HB.out hx374_1
              replace hx374_2 := cb HB.out hx374_2
              replace hx374_3 := cb HB.out hx374_3
              replace hx374_4 := cb HB.out hx374_4
              replace hx374_5 := cb HB.out hx374_5
              replace hx374_6 := cb HB.out hx374_6
              replace hx374_7 := cb HB.out hx374_7
              replace hx374_8 := cb HB.out hx374_8
              replace hx374_9 := cb HB.out hx374_9
              replace hx374_10 := cb HB.out hx374_10
              replace hx374_11 := cb HB.out hx374_11
              replace hx374_12 := cb HB.out hx374_12
              replace hx374_13 := cb HB.out hx374_13
              replace hx374_14 := cb HB.out hx374_14
              replace hx374_15 := cb HB.out hx374_15
              replace p374 := eq_true p374
              replace q374 := eq_true q374
              try go_wp2
              replace HB := Aside0.mk (below_drew1 HB.out)
              have p382 : 0 ≤ (x5_1 : Int) := od
              have q382 : x5_1 < (l0.length : Int) := od
              obtain ⟨ad382,A382_9,c382_9,e382,hx382_0,hx382_1,hx382_2,hx382_3,hx382_4,hx382_5,hx382_6,hx382_7,hx382_8,hx382_9,hx382_10,hx382_11,hx382_12,hx382_13,hx382_14,hx382_15⟩ := at_T44 HR0.out x5_1 p382 q382
              have hw382_15 := hx382_15
              have hw382_14 := hx382_14
              have hw382_13 := hx382_13
              have hw382_12 := hx382_12
              have hw382_11 := hx382_11
              have hw382_10 := hx382_10
              have hw382_9 := hx382_9
              have hw382_8 := hx382_8
              have hw382_7 := hx382_7
              have hw382_6 := hx382_6
              have hw382_5 := hx382_5
              have hw382_4 := hx382_4
              have hw382_3 := hx382_3
              have hw382_2 := hx382_2
              have hw382_1 := hx382_1
              have hw382_0 := hx382_0
              obtain rfl : ad374 = ad382 := (by injection e382)
              replace hx382_0 := cb HB.out hx382_0
              replace hx382_1 := cb HB.out hx382_1
              replace hx382_2 := cb HB.out hx382_2
              replace hx382_3 := cb HB.out hx382_3
              replace hx382_4 := cb HB.out hx382_4
              replace hx382_5 := cb HB.out hx382_5
              replace hx382_6 := cb HB.out hx382_6
              replace hx382_7 := cb HB.out hx382_7
              replace hx382_8 := cb HB.out hx382_8
              replace hx382_9 := cb HB.out hx382_9
              replace hx382_10 := cb HB.out hx382_10
              replace hx382_11 := cb HB.out hx382_11
              replace hx382_12 := cb HB.out hx382_12
              replace hx382_13 := cb HB.out hx382_13
              replace hx382_14 := cb HB.out hx382_14
              replace hx382_15 := cb HB.out hx382_15
              replace p382 := eq_true p382
              replace q382 := eq_true q382
              refine start_ (n:=9) (S:=fun w' => w'.cell? (ad374.add ((x5_1).toNat * 16)) = some (.int .i64 ((rd_T44 l0 x5_1).f0)) ∧ w'.cell? ⟨(ad374.add ((x5_1).toNat * 16)).block,(ad374.add ((x5_1).toNat * 16)).off + 1,none⟩ = some (.int .i64 ((rd_T44 l0 x5_1).f1)) ∧ w'.cell? ⟨(ad374.add ((x5_1).toNat * 16)).block,(ad374.add ((x5_1).toNat * 16)).off + 2,none⟩ = some (.int .i64 ((rd_T44 l0 x5_1).f2)) ∧ w'.cell? ⟨(ad374.add ((x5_1).toNat * 16)).block,(ad374.add ((x5_1).toNat * 16)).off + 3,none⟩ = some (.int .i64 ((rd_T44 l0 x5_1).f3.f0)) ∧ w'.cell? ⟨(ad374.add ((x5_1).toNat * 16)).block,(ad374.add ((x5_1).toNat * 16)).off + 4,none⟩ = some (.int .i64 ((rd_T44 l0 x5_1).f3.f1)) ∧ w'.cell? ⟨(ad374.add ((x5_1).toNat * 16)).block,(ad374.add ((x5_1).toNat * 16)).off + 5,none⟩ = some (.int .i64 ((rd_T44 l0 x5_1).f3.f2)) ∧ w'.cell? ⟨(ad374.add ((x5_1).toNat * 16)).block,(ad374.add ((x5_1).toNat * 16)).off + 6,none⟩ = some (.int .i64 ((rd_T44 l0 x5_1).f3.f3)) ∧ w'.cell? ⟨(ad374.add ((x5_1).toNat * 16)).block,(ad374.add ((x5_1).toNat * 16)).off + 7,none⟩ = some (.int .i64 ((rd_T44 l0 x5_1).f3.f4)) ∧ w'.cell? ⟨(ad374.add ((x5_1).toNat * 16)).block,(ad374.add ((x5_1).toNat * 16)).off + 8,none⟩ = some (.string ((rd_T44 l0 x5_1).f3.f5)) ∧ w'.cell? ⟨(ad374.add ((x5_1).toNat * 16)).block,(ad374.add ((x5_1).toNat * 16)).off + 9,none⟩ = some (.slice A382_9 0 c382_9) ∧ w'.cell? ⟨(ad374.add ((x5_1).toNat * 16)).block,(ad374.add ((x5_1).toNat * 16)).off + 10,none⟩ = some (.int .i64 ((rd_T44 l0 x5_1).f5.f0)) ∧ w'.cell? ⟨(ad374.add ((x5_1).toNat * 16)).block,(ad374.add ((x5_1).toNat * 16)).off + 11,none⟩ = some (.int .i64 ((rd_T44 l0 x5_1).f5.f1)) ∧ w'.cell? ⟨(ad374.add ((x5_1).toNat * 16)).block,(ad374.add ((x5_1).toNat * 16)).off + 12,none⟩ = some (.int .i64 ((rd_T44 l0 x5_1).f5.f2)) ∧ w'.cell? ⟨(ad374.add ((x5_1).toNat * 16)).block,(ad374.add ((x5_1).toNat * 16)).off + 13,none⟩ = some (.int .i64 ((rd_T44 l0 x5_1).f5.f3)) ∧ w'.cell? ⟨(ad374.add ((x5_1).toNat * 16)).block,(ad374.add ((x5_1).toNat * 16)).off + 14,none⟩ = some (.int .i64 ((rd_T44 l0 x5_1).f5.f4)) ∧ w'.cell? ⟨(ad374.add ((x5_1).toNat * 16)).block,(ad374.add ((x5_1).toNat * 16)).off + 15,none⟩ = some (.int .i64 ((rd_T44 l0 x5_1).f5.f5))) (ds := []) (bm 9 0) (by kernel_rfl) rfl rfl ⟨(cb HB.out hw382_0),(cb HB.out hw382_1),(cb HB.out hw382_2),(cb HB.out hw382_3),(cb HB.out hw382_4),(cb HB.out hw382_5),(cb HB.out hw382_6),(cb HB.out hw382_7),(cb HB.out hw382_8),(cb HB.out hw382_9),(cb HB.out hw382_10),(cb HB.out hw382_11),(cb HB.out hw382_12),(cb HB.out hw382_13),(cb HB.out hw382_14),(cb HB.out hw382_15)⟩ (fun hHeld => ?_); refine with_tabW laws_heldWorkerS.tab28 laws_heldWorkerS.bits28 (fun HT_ HW_ => ?_)
              generalize wr.drew = w47 at HB hx382_0 hx382_1 hx382_10 hx382_11 hx382_12 hx382_13 hx382_14 hx382_15 hx382_2 hx382_3 hx382_4 hx382_5 hx382_6 hx382_7 hx382_8 hx382_9 hHeld ⊢
              refine pV_ 0 89 (bm 9 1) HT_.out ?_
              refine pV_ 1 90 (bm 9 3) HT_.out ?_
              refine pV_ 2 91 (bm 9 7) HT_.out ?_
              refine pV_ 3 92 (bm 9 15) HT_.out ?_
              refine pV_ 4 93 (bm 9 31) HT_.out ?_
              refine pV_ 6 95 (bm 9 95) HT_.out ?_
              refine tk 5 94 (bm 9 127) HT_.out HW_.out hHeld ?_
              refine one_ (i:=7) (N:=some 96) (bm 9 255) rfl rfl (one_of HT_.out (by kernel_rfl)) (by decide) (fun K hK => ?_)
              refine goes_ Try.func41 (by kernel_rfl) rfl #[.int .i64 (wrap64 ((wrap64 ((wrap64 ((wrap64 ((wrap64 ((wrap64 ((wrap64 ((wrap64 (x1_1 + 1)) + 1)) + 1)) + 1)) + 1)) + 1)) + 1)) + 1))] (by rfl) rfl rfl mA ?_
              with_reducible refine (laws_markText.calls k1 (wrap64 ((wrap64 ((wrap64 ((wrap64 ((wrap64 ((wrap64 ((wrap64 ((wrap64 (x1_1 + 1)) + 1)) + 1)) + 1)) + 1)) + 1)) + 1)) + 1)) t383 _ A13.out).mono ?_
              rintro e w48 ⟨rfl,hb⟩
              refine ⟨_,rfl,?_⟩
              replace HB := bsA hb
              clear hb
              refine hK.out _ _ ⟨(cb HB.out hw382_0),(cb HB.out hw382_1),(cb HB.out hw382_2),(cb HB.out hw382_3),(cb HB.out hw382_4),(cb HB.out hw382_5),(cb HB.out hw382_6),(cb HB.out hw382_7),(cb HB.out hw382_8),(cb HB.out hw382_9),(cb HB.out hw382_10),(cb HB.out hw382_11),(cb HB.out hw382_12),(cb HB.out hw382_13),(cb HB.out hw382_14),(cb HB.out hw382_15)⟩ (fun hHeld => ?_)
              clear hK K
              refine nw 96 ?_
              refine pV_ 8 97 (bm 9 511) HT_.out ?_
              refine done_ (done_of HT_.out (by kernel_rfl)) ?_
              try go_wp2
              go_ret
              exact ⟨by first | rfl | (simp only [i64_w,i32_w] <;> rfl) | (simp [errW_none,errW_some] <;> rfl) | (simp [*,errW_none,errW_some] <;> rfl),bA⟩
            ·rw [if_neg c12] at H
             have c12b0 : (((rd_T44 l0 x5_1).f3.f4) == (wrap64 ((wrap64 ((wrap64 ((wrap64 ((wrap64 ((wrap64 ((wrap64 (x1_1 + 1)) + 1)) + 1)) + 1)) + 1)) + 1)) + 1))) = false := beq_eq_false_iff_ne.mpr c12
             have c12b1 : (((rd_T44 l0 x5_1).f3.f4) != (wrap64 ((wrap64 ((wrap64 ((wrap64 ((wrap64 ((wrap64 ((wrap64 (x1_1 + 1)) + 1)) + 1)) + 1)) + 1)) + 1)) + 1))) = true := bne_iff_ne.mpr c12
             obtain rfl := Option.some.inj H
             have p374 : 0 ≤ (x5_1 : Int) := od
             have q374 : x5_1 < (l0.length : Int) := od
             obtain ⟨ad374,A374_9,c374_9,e374,hx374_0,hx374_1,hx374_2,hx374_3,hx374_4,hx374_5,hx374_6,hx374_7,hx374_8,hx374_9,hx374_10,hx374_11,hx374_12,hx374_13,hx374_14,hx374_15⟩ := at_T44 HR0.out x5_1 p374 q374
             cases e374
             replace hx374_0 := cb HB.out hx374_0
             replace hx374_1 := cb HB.out hx374_1
             replace hx374_2 := cb HB.out hx374_2
             replace hx374_3 := cb HB.out hx374_3
             replace hx374_4 := cb HB.out hx374_4
             replace hx374_5 := cb HB.out hx374_5
             replace hx374_6 := cb HB.out hx374_6
             replace hx374_7 := cb HB.out hx374_7
             replace hx374_8 := cb HB.out hx374_8
             replace hx374_9 := cb HB.out hx374_9
             replace hx374_10 := cb HB.out hx374_10
             replace hx374_11 := cb HB.out hx374_11
             replace hx374_12 := cb HB.out hx374_12
             replace hx374_13 := cb HB.out hx374_13
             replace hx374_14 := cb HB.out hx374_14
             replace hx374_15 := cb HB.out hx374_15
             replace p374 := eq_true p374
             replace q374 := eq_true q374
             go_wp2
             go_ret
             exact ⟨by first | rfl | (simp only [i64_w,i32_w] <;> rfl) | (simp [errW_none,errW_some] <;> rfl) | (simp [*,errW_none,errW_some] <;> rfl),bA⟩
           ·rw [if_neg c11] at H
            have c11b0 : (((rd_T44 l0 x5_1).f3.f3) == (wrap64 ((wrap64 ((wrap64 ((wrap64 ((wrap64 ((wrap64 (x1_1 + 1)) + 1)) + 1)) + 1)) + 1)) + 1))) = false := beq_eq_false_iff_ne.mpr c11
            have c11b1 : (((rd_T44 l0 x5_1).f3.f3) != (wrap64 ((wrap64 ((wrap64 ((wrap64 ((wrap64 ((wrap64 (x1_1 + 1)) + 1)) + 1)) + 1)) + 1)) + 1))) = true := bne_iff_ne.mpr c11
            obtain rfl := Option.some.inj H
            have p374 : 0 ≤ (x5_1 : Int) := od
            have q374 : x5_1 < (l0.length : Int) := od
            obtain ⟨ad374,A374_9,c374_9,e374,hx374_0,hx374_1,hx374_2,hx374_3,hx374_4,hx374_5,hx374_6,hx374_7,hx374_8,hx374_9,hx374_10,hx374_11,hx374_12,hx374_13,hx374_14,hx374_15⟩ := at_T44 HR0.out x5_1 p374 q374
            cases e374
            replace hx374_0 := cb HB.out hx374_0
            replace hx374_1 := cb HB.out hx374_1
            replace hx374_2 := cb HB.out hx374_2
            replace hx374_3 := cb HB.out hx374_3
            replace hx374_4 := cb HB.out hx374_4
            replace hx374_5 := cb HB.out hx374_5
            replace hx374_6 := cb HB.out hx374_6
            replace hx374_7 := cb HB.out hx374_7
            replace hx374_8 := cb HB.out hx374_8
            replace hx374_9 := cb HB.out hx374_9
            replace hx374_10 := cb HB.out hx374_10
            replace hx374_11 := cb HB.out hx374_11
            replace hx374_12 := cb HB.out hx374_12
            replace hx374_13 := cb HB.out hx374_13
            replace hx374_14 := cb HB.out hx374_14
            replace hx374_15 := cb HB.out hx374_15
            replace p374 := eq_true p374
            replace q374 := eq_true q374
            go_wp2
            go_ret
            exact ⟨by first | rfl | (simp only [i64_w,i32_w] <;> rfl) | (simp [errW_none,errW_some] <;> rfl) | (simp [*,errW_none,errW_some] <;> rfl),bA⟩
          ·rw [if_neg c10] at H
           have c10b0 : (((rd_T44 l0 x5_1).f3.f2) == (wrap64 ((wrap64 ((wrap64 ((wrap64 ((wrap64 (x1_1 + 1)) + 1)) + 1)) + 1)) + 1))) = false := beq_eq_false_iff_ne.mpr c10
           have c10b1 : (((rd_T44 l0 x5_1).f3.f2) != (wrap64 ((wrap64 ((wrap64 ((wrap64 ((wrap64 (x1_1 + 1)) + 1)) + 1)) + 1)) + 1))) = true := bne_iff_ne.mpr c10
           obtain rfl := Option.some.inj H
           have p374 : 0 ≤ (x5_1 : Int) := od
           have q374 : x5_1 < (l0.length : Int) := od
           obtain ⟨ad374,A374_9,c374_9,e374,hx374_0,hx374_1,hx374_2,hx374_3,hx374_4,hx374_5,hx374_6,hx374_7,hx374_8,hx374_9,hx374_10,hx374_11,hx374_12,hx374_13,hx374_14,hx374_15⟩ := at_T44 HR0.out x5_1 p374 q374
           cases e374
           replace hx374_0 := cb HB.out hx374_0
           replace hx374_1 := cb HB.out hx374_1
           replace hx374_2 := cb HB.out hx374_2
           replace hx374_3 := cb HB.out hx374_3
           replace hx374_4 := cb HB.out hx374_4
           replace hx374_5 := cb HB.out hx374_5
           replace hx374_6 := cb HB.out hx374_6
           replace hx374_7 := cb HB.out hx374_7
           replace hx374_8 := cb HB.out hx374_8
           replace hx374_9 := cb HB.out hx374_9
           replace hx374_10 := cb HB.out hx374_10
           replace hx374_11 := cb HB.out hx374_11
           replace hx374_12 := cb HB.out hx374_12
           replace hx374_13 := cb HB.out hx374_13
           replace hx374_14 := cb HB.out hx374_14
           replace hx374_15 := cb HB.out hx374_15
           replace p374 := eq_true p374
           replace q374 := eq_true q374
           go_wp2
           go_ret
           exact ⟨by first | rfl | (simp only [i64_w,i32_w] <;> rfl) | (simp [errW_none,errW_some] <;> rfl) | (simp [*,errW_none,errW_some] <;> rfl),bA⟩
         ·rw [if_neg c9] at H
          have c9b0 : (((rd_T44 l0 x5_1).f3.f1) == (wrap64 ((wrap64 ((wrap64 ((wrap64 (x1_1 + 1)) + 1)) + 1)) + 1))) = false := beq_eq_false_iff_ne.mpr c9
          have c9b1 : (((rd_T44 l0 x5_1).f3.f1) != (wrap64 ((wrap64 ((wrap64 ((wrap64 (x1_1 + 1)) + 1)) + 1)) + 1))) = true := bne_iff_ne.mpr c9
          obtain rfl := Option.some.inj H
          have p374 : 0 ≤ (x5_1 : Int) := od
          have q374 : x5_1 < (l0.length : Int) := od
          obtain ⟨ad374,A374_9,c374_9,e374,hx374_0,hx374_1,hx374_2,hx374_3,hx374_4,hx374_5,hx374_6,hx374_7,hx374_8,hx374_9,hx374_10,hx374_11,hx374_12,hx374_13,hx374_14,hx374_15⟩ := at_T44 HR0.out x5_1 p374 q374
          cases e374
          replace hx374_0 := cb HB.out hx374_0
          replace hx374_1 := cb HB.out hx374_1
          replace hx374_2 := cb HB.out hx374_2
          replace hx374_3 := cb HB.out hx374_3
          replace hx374_4 := cb HB.out hx374_4
          replace hx374_5 := cb HB.out hx374_5
          replace hx374_6 := cb HB.out hx374_6
          replace hx374_7 := cb HB.out hx374_7
          replace hx374_8 := cb HB.out hx374_8
          replace hx374_9 := cb HB.out hx374_9
          replace hx374_10 := cb HB.out hx374_10
          replace hx374_11 := cb HB.out hx374_11
          replace hx374_12 := cb HB.out hx374_12
          replace hx374_13 := cb HB.out hx374_13
          replace hx374_14 := cb HB.out hx374_14
          replace hx374_15 := cb HB.out hx374_15
          replace p374 := eq_true p374
          replace q374 := eq_true q374
          go_wp2
          go_ret
          exact ⟨by first | rfl | (simp only [i64_w,i32_w] <;> rfl) | (simp [errW_none,errW_some] <;> rfl) | (simp [*,errW_none,errW_some] <;> rfl),bA⟩
        ·rw [if_neg c8] at H
         have c8b0 : (((rd_T44 l0 x5_1).f3.f0) == (wrap64 ((wrap64 ((wrap64 (x1_1 + 1)) + 1)) + 1))) = false := beq_eq_false_iff_ne.mpr c8
         have c8b1 : (((rd_T44 l0 x5_1).f3.f0) != (wrap64 ((wrap64 ((wrap64 (x1_1 + 1)) + 1)) + 1))) = true := bne_iff_ne.mpr c8
         obtain rfl := Option.some.inj H
         have p374 : 0 ≤ (x5_1 : Int) := od
         have q374 : x5_1 < (l0.length : Int) := od
         obtain ⟨ad374,A374_9,c374_9,e374,hx374_0,hx374_1,hx374_2,hx374_3,hx374_4,hx374_5,hx374_6,hx374_7,hx374_8,hx374_9,hx374_10,hx374_11,hx374_12,hx374_13,hx374_14,hx374_15⟩ := at_T44 HR0.out x5_1 p374 q374
         cases e374
         replace hx374_0 := cb HB.out hx374_0
         replace hx374_1 := cb HB.out hx374_1
         replace hx374_2 := cb HB.out hx374_2
         replace hx374_3 := cb HB.out hx374_3
         replace hx374_4 := cb HB.out hx374_4
         replace hx374_5 := cb HB.out hx374_5
         replace hx374_6 := cb HB.out hx374_6
         replace hx374_7 := cb HB.out hx374_7
         replace hx374_8 := cb HB.out hx374_8
         replace hx374_9 := cb HB.out hx374_9
         replace hx374_10 := cb HB.out hx374_10
         replace hx374_11 := cb HB.out hx374_11
         replace hx374_12 := cb HB.out hx374_12
         replace hx374_13 := cb HB.out hx374_13
         replace hx374_14 := cb HB.out hx374_14
         replace hx374_15 := cb HB.out hx374_15
         replace p374 := eq_true p374
         replace q374 := eq_true q374
         go_wp2
         go_ret
         exact ⟨by first | rfl | (simp only [i64_w,i32_w] <;> rfl) | (simp [errW_none,errW_some] <;> rfl) | (simp [*,errW_none,errW_some] <;> rfl),bA⟩
       ·rw [if_neg c7] at H
        have c7b0 : (((rd_T44 l0 x5_1).f2) == (wrap64 ((wrap64 (x1_1 + 1)) + 1))) = false := beq_eq_false_iff_ne.mpr c7
        have c7b1 : (((rd_T44 l0 x5_1).f2) != (wrap64 ((wrap64 (x1_1 + 1)) + 1))) = true := bne_iff_ne.mpr c7
        obtain rfl := Option.some.inj H
        have p374 : 0 ≤ (x5_1 : Int) := od
        have q374 : x5_1 < (l0.length : Int) := od
        obtain ⟨ad374,A374_9,c374_9,e374,hx374_0,hx374_1,hx374_2,hx374_3,hx374_4,hx374_5,hx374_6,hx374_7,hx374_8,hx374_9,hx374_10,hx374_11,hx374_12,hx374_13,hx374_14,hx374_15⟩ := at_T44 HR0.out x5_1 p374 q374
        cases e374
        replace hx374_0 := cb HB.out hx374_0
        replace hx374_1 := cb HB.out hx374_1
        replace hx374_2 := cb HB.out hx374_2
        replace hx374_3 := cb HB.out hx374_3
        replace hx374_4 := cb HB.out hx374_4
        replace hx374_5 := cb HB.out hx374_5
        replace hx374_6 := cb HB.out hx374_6
        replace hx374_7 := cb HB.out hx374_7
        replace hx374_8 := cb HB.out hx374_8
        replace hx374_9 := cb HB.out hx374_9
        replace hx374_10 := cb HB.out hx374_10
        replace hx374_11 := cb HB.out hx374_11
        replace hx374_12 := cb HB.out hx374_12
        replace hx374_13 := cb HB.out hx374_13
        replace hx374_14 := cb HB.out hx374_14
        replace hx374_15 := cb HB.out hx374_15
        replace p374 := eq_true p374
        replace q374 := eq_true q374
        go_wp2
        go_ret
        exact ⟨by first | rfl | (simp only [i64_w,i32_w] <;> rfl) | (simp [errW_none,errW_some] <;> rfl) | (simp [*,errW_none,errW_some] <;> rfl),bA⟩
      ·rw [if_neg c6] at H
       have c6b0 : (((rd_T44 l0 x5_1).f1) == (wrap64 (x1_1 + 1))) = false := beq_eq_false_iff_ne.mpr c6
       have c6b1 : (((rd_T44 l0 x5_1).f1) != (wrap64 (x1_1 + 1))) = true := bne_iff_ne.mpr c6
       obtain rfl := Option.some.inj H
       have p374 : 0 ≤ (x5_1 : Int) := od
       have q374 : x5_1 < (l0.length : Int) := od
       obtain ⟨ad374,A374_9,c374_9,e374,hx374_0,hx374_1,hx374_2,hx374_3,hx374_4,hx374_5,hx374_6,hx374_7,hx374_8,hx374_9,hx374_10,hx374_11,hx374_12,hx374_13,hx374_14,hx374_15⟩ := at_T44 HR0.out x5_1 p374 q374
       cases e374
       replace hx374_0 := cb HB.out hx374_0
       replace hx374_1 := cb HB.out hx374_1
       replace hx374_2 := cb HB.out hx374_2
       replace hx374_3 := cb HB.out hx374_3
       replace hx374_4 := cb HB.out hx374_4
       replace hx374_5 := cb HB.out hx374_5
       replace hx374_6 := cb HB.out hx374_6
       replace hx374_7 := cb HB.out hx374_7
       replace hx374_8 := cb HB.out hx374_8
       replace hx374_9 := cb HB.out hx374_9
       replace hx374_10 := cb HB.out hx374_10
       replace hx374_11 := cb HB.out hx374_11
       replace hx374_12 := cb HB.out hx374_12
       replace hx374_13 := cb HB.out hx374_13
       replace hx374_14 := cb HB.out hx374_14
       replace hx374_15 := cb HB.out hx374_15
       replace p374 := eq_true p374
       replace q374 := eq_true q374
       go_wp2
       go_ret
       exact ⟨by first | rfl | (simp only [i64_w,i32_w] <;> rfl) | (simp [errW_none,errW_some] <;> rfl) | (simp [*,errW_none,errW_some] <;> rfl),bA⟩
     ·rw [if_neg c5] at H
      have c5b0 : (((rd_T44 l0 x5_1).f0) == x1_1) = false := beq_eq_false_iff_ne.mpr c5
      have c5b1 : (((rd_T44 l0 x5_1).f0) != x1_1) = true := bne_iff_ne.mpr c5
      obtain rfl := Option.some.inj H
      have p374 : 0 ≤ (x5_1 : Int) := od
      have q374 : x5_1 < (l0.length : Int) := od
      obtain ⟨ad374,A374_9,c374_9,e374,hx374_0,hx374_1,hx374_2,hx374_3,hx374_4,hx374_5,hx374_6,hx374_7,hx374_8,hx374_9,hx374_10,hx374_11,hx374_12,hx374_13,hx374_14,hx374_15⟩ := at_T44 HR0.out x5_1 p374 q374
      cases e374
      replace hx374_0 := cb HB.out hx374_0
      replace hx374_1 := cb HB.out hx374_1
      replace hx374_2 := cb HB.out hx374_2
      replace hx374_3 := cb HB.out hx374_3
      replace hx374_4 := cb HB.out hx374_4
      replace hx374_5 := cb HB.out hx374_5
      replace hx374_6 := cb HB.out hx374_6
      replace hx374_7 := cb HB.out hx374_7
      replace hx374_8 := cb HB.out hx374_8
      replace hx374_9 := cb HB.out hx374_9
      replace hx374_10 := cb HB.out hx374_10
      replace hx374_11 := cb HB.out hx374_11
      replace hx374_12 := cb HB.out hx374_12
      replace hx374_13 := cb HB.out hx374_13
      replace hx374_14 := cb HB.out hx374_14
      replace hx374_15 := cb HB.out hx374_15
      replace p374 := eq_true p374
      replace q374 := eq_true q374
      go_wp2
      go_ret
      exact ⟨by first | rfl | (simp only [i64_w,i32_w] <;> rfl) | (simp [errW_none,errW_some] <;> rfl) | (simp [*,errW_none,errW_some] <;> rfl),bA⟩
    ·rw [if_neg c4] at H
     exact absurd H (by simp)
   ·rw [if_neg c3] at H
    have c3b0 : decide (x5_1 < (l0.length : Int)) = false := decide_eq_false c3
    clear c3
    obtain rfl := Option.some.inj H
    go_wp2
    go_ret
    exact ⟨by first | rfl | (simp only [i64_w,i32_w] <;> rfl) | (simp [errW_none,errW_some] <;> rfl) | (simp [*,errW_none,errW_some] <;> rfl),bA⟩

end Go.Proofs.Ytmfichcgmofpkaa.XFnExactNewFleet
