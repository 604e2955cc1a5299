-- Printed by this session's own program wip/tools/xprint.py, which widens the kit's print. Not trusted: Lean checks it.
import Derived.Test.YtleifhnoaaphmaaDoorXFnExactAskReaderx0
import Derived.Test.YtleifhnoaaphmaaDoorXFnExactAskReaderx9
namespace Go.Proofs.YtleifhnoaaphmaaDoor.XFnExactAskReader
open List (setIfInBounds_toArray set_cons_zero set_cons_succ)
open Go.RowKit Go.Proofs.YtleifhnoaaphmaaDoorW.PrintWords Go.Proofs.YtleifhnoaaphmaaDoorW.PrintLast Go.Proofs.YtleifhnoaaphmaaDoorW.PrintMore
attribute [local go_sem] max2_int min2_int max_two min_two max_three min_three max_four min_four   -- for this text's walks alone
set_option linter.unusedVariables false
set_option linter.unusedSimpArgs false

/-! ### laws_heldEntryS: function 74 -/
def laws_heldEntryS.l0 : Nat → List (S84) → Int → Int → Option (Int)
 | 0,_,_,_ => none
 | k + 1,x0,x1,x5 => if x5 < (x0.length : Int) then (if 0 ≤ x5 then (if ((rd_T84 x0 x5).f0) = x1 then (if ((rd_T84 x0 x5).f1) = (wrap64 (x1 + 1)) then (if ((rd_T84 x0 x5).f2) = (wrap64 ((wrap64 (x1 + 1)) + 1)) then ((laws_markText.f k (wrap64 ((wrap64 ((wrap64 (x1 + 1)) + 1)) + 1))).bind fun t371 => (if ((rd_T84 x0 x5).f3).toList = t371.toList then (laws_heldEntryS.l0 k x0 (wrap64 ((wrap64 ((wrap64 ((wrap64 (x1 + 1)) + 1)) + 1)) + 1)) (wrap64 (x5 + 1))) else (some (-1)))) else (some (-1))) else (some (-1))) else (some (-1))) else (none)) else (some x1)
def laws_heldEntryS.f (k : Nat) (l0 : List (S84)) (a1 : Int) : Option (Int) := laws_heldEntryS.l0 k l0 a1 0
theorem laws_heldEntryS.mono_l : ∀ k,(∀ y0 y1 y2,LeO (laws_heldEntryS.l0 k y0 y1 y2) (laws_heldEntryS.l0 (k + 1) y0 y1 y2))
 | 0 => fun _ _ _ r h => by simp [laws_heldEntryS.l0] at h
 | k + 1 => by
  have ih0 := laws_heldEntryS.mono_l k
  ·intro y0 y1 y2
   unfold laws_heldEntryS.l0
   repeat' first
   | (with_reducible exact ih0 _ _ _)
   | (with_reducible exact laws_markText.mono _ _)
   | (with_reducible exact LeO.refl _)
   | (with_reducible exact LeO.none _)
   | (with_reducible refine LeO.ite ?_ ?_)
   | (with_reducible refine LeO.bind ?_ (fun _ => ?_))
   | exact ih0 _ _ _
   | exact laws_markText.mono _ _
   | exact LeO.none _
   | refine LeO.ite ?_ ?_
   | refine LeO.bind ?_ (fun _ => ?_)
theorem laws_heldEntryS.mono : ∀ a0 a1 k,LeO (laws_heldEntryS.f k a0 a1) (laws_heldEntryS.f (k + 1) a0 a1) := by
 intro a0 a1 k
 have ih0 := laws_heldEntryS.mono_l k
 unfold laws_heldEntryS.f
 repeat' first
   | (with_reducible exact ih0 _ _ _)
   | (with_reducible exact laws_markText.mono _ _)
   | (with_reducible exact LeO.refl _)
   | (with_reducible exact LeO.none _)
   | (with_reducible refine LeO.ite ?_ ?_)
   | (with_reducible refine LeO.bind ?_ (fun _ => ?_))
   | exact ih0 _ _ _
   | exact laws_markText.mono _ _
   | exact LeO.none _
   | refine LeO.ite ?_ ?_
   | refine LeO.bind ?_ (fun _ => ?_)
def laws_heldEntryS.T13 : Bool × List (List Nat × List Nat) := (true,[([],[]),([],[]),([0,1],[0,1]),([2],[2]),([3],[3]),([],[]),([5],[5]),([4,6],[4,6])])
def laws_heldEntryS.B13 : List Nat := [0,0,3,7,15,0,32,127]
theorem laws_heldEntryS.tab13 : rtab .any (opsOf Tryd.f74 13) = laws_heldEntryS.T13 := by kernel_rfl
theorem laws_heldEntryS.bits13 : waitsOk laws_heldEntryS.T13.2 laws_heldEntryS.B13 = true := by kernel_rfl
set_option maxHeartbeats 8000000 in
set_option maxRecDepth 100000 in
theorem laws_heldEntryS.calls (k : Nat) (A0 : Option Addr) (c0 : Nat) (l0 : List (S84)) (a1 : Int) (r : Int) (w : World) (hr0 : Kd.C k84 w A0 l0.length l0) (hc0 : l0.length ≤ c0) (h : laws_heldEntryS.f k l0 a1 = some r) :
  Calls Tryd.prog 74 #[.slice A0 l0.length c0,.int .i64 a1] w fun e w' => e = .returned (.int .i64 r) ∧ Below w.heap.size w w' := by
 have HR0 := Aside0.mk hr0
 have HC0 := Aside0.mk hc0
 clear hr0 hc0
 have HB := Aside0.mk (Below.refl w.heap.size w)
 have H : (laws_heldEntryS.l0 k l0 a1 0) = some r := h
 clear h
 have H' := Aside0.mk H
 clear H
 go_enter Tryd.func74,Tryd.ntmps74
 go_wp2
 go_loopg [1,5] k (fun kq v1 v5 w' => ∃ (x1_1 : Int) (x5_1 : Int),v1 = .int .i64 x1_1 ∧ v5 = .int .i64 x5_1 ∧ Aside0 (laws_heldEntryS.l0 kq l0 x1_1 x5_1 = some r) ∧ Aside0 (kq ≤ k) ∧ Aside0 (Below w.heap.size w w'))
 case atStart => exact ⟨(a1),(0),(by first | rfl | (simp; done) | (simp [*]; done)),(by first | rfl | (simp; done) | (simp [*]; done)),H',⟨Nat.le_refl _⟩,⟨bA⟩⟩
 case round =>
  clear H'
  try clear p2
  obtain ⟨x1_1,x5_1,rfl,rfl,HA,HK1,HB⟩ := hrel
  cases gk with
  | zero => exact absurd HA.out (by simp [laws_heldEntryS.l0])
  | succ k1 =>
   have H := HA.out
   clear HA
   simp only [laws_heldEntryS.l0] at H
   by_cases c3 : x5_1 < (l0.length : Int)
   ·rw [if_pos c3] at H
    have c3b0 : decide (x5_1 < (l0.length : Int)) = true := decide_eq_true c3
    clear c3
    by_cases c4 : 0 ≤ x5_1
    ·rw [if_pos c4] at H
     have c4b0 : decide (0 ≤ x5_1) = true := decide_eq_true c4
     clear c4
     by_cases c5 : ((rd_T84 l0 x5_1).f0) = x1_1
     ·rw [if_pos c5] at H
      have c5b0 : (((rd_T84 l0 x5_1).f0) == x1_1) = true := beq_iff_eq.mpr c5
      have c5b1 : (((rd_T84 l0 x5_1).f0) != x1_1) = false := bne_eq_false_iff_eq.mpr c5
      clear c5
      by_cases c6 : ((rd_T84 l0 x5_1).f1) = (wrap64 (x1_1 + 1))
      ·rw [if_pos c6] at H
       have c6b0 : (((rd_T84 l0 x5_1).f1) == (wrap64 (x1_1 + 1))) = true := beq_iff_eq.mpr c6
       have c6b1 : (((rd_T84 l0 x5_1).f1) != (wrap64 (x1_1 + 1))) = false := bne_eq_false_iff_eq.mpr c6
       clear c6
       by_cases c7 : ((rd_T84 l0 x5_1).f2) = (wrap64 ((wrap64 (x1_1 + 1)) + 1))
       ·rw [if_pos c7] at H
        have c7b0 : (((rd_T84 l0 x5_1).f2) == (wrap64 ((wrap64 (x1_1 + 1)) + 1))) = true := beq_iff_eq.mpr c7
        have c7b1 : (((rd_T84 l0 x5_1).f2) != (wrap64 ((wrap64 (x1_1 + 1)) + 1))) = false := bne_eq_false_iff_eq.mpr c7
        clear c7
        replace H := Option.bind_eq_some_iff.mp H
        obtain ⟨t371,A80,H⟩ := H
        try dsimp only at H
        have A8 := Aside0.mk A80
        clear A80
        by_cases c9 : ((rd_T84 l0 x5_1).f3).toList = t371.toList
        ·rw [if_pos c9] at H
         have c9b0 : (((rd_T84 l0 x5_1).f3).toList == t371.toList) = true := beq_iff_eq.mpr c9
         have c9b1 : (((rd_T84 l0 x5_1).f3).toList != t371.toList) = false := bne_eq_false_iff_eq.mpr c9
         clear c9
         have H' := Aside0.mk H
         clear H
         have p367 : 0 ≤ (x5_1 : Int) := of_decide_eq_true (by first | (with_reducible assumption) | assumption)
         have q367 : x5_1 < (l0.length : Int) := of_decide_eq_true (by first | (with_reducible assumption) | assumption)
         obtain ⟨ad367,e367,hx367_0,hx367_1,hx367_2,hx367_3⟩ := at_T84 HR0.out x5_1 p367 q367
         cases e367
         replace hx367_0 := (HB.out.cell (World.block_lt_of_cell? w _ hx367_0)).trans hx367_0
         replace hx367_1 := (HB.out.cell (World.block_lt_of_cell? w _ hx367_1)).trans hx367_1
         replace hx367_2 := (HB.out.cell (World.block_lt_of_cell? w _ hx367_2)).trans hx367_2
         replace hx367_3 := (HB.out.cell (World.block_lt_of_cell? w _ hx367_3)).trans hx367_3
         replace p367 := eq_true p367
         replace q367 := eq_true q367
         have p368 : 0 ≤ (x5_1 : Int) := of_decide_eq_true (by first | (with_reducible assumption) | assumption)
         have q368 : x5_1 < (l0.length : Int) := of_decide_eq_true (by first | (with_reducible assumption) | assumption)
         obtain ⟨ad368,e368,hx368_0,hx368_1,hx368_2,hx368_3⟩ := at_T84 HR0.out x5_1 p368 q368
         obtain rfl : ad367 = ad368 := (by injection e368)
         replace hx368_0 := (HB.out.cell (World.block_lt_of_cell? w _ hx368_0)).trans hx368_0
         replace hx368_1 := (HB.out.cell (World.block_lt_of_cell? w _ hx368_1)).trans hx368_1
         replace hx368_2 := (HB.out.cell (World.block_lt_of_cell? w _ hx368_2)).trans hx368_2
         replace hx368_3 := (HB.out.cell (World.block_lt_of_cell? w _ hx368_3)).trans hx368_3
         replace p368 := eq_true p368
         replace q368 := eq_true q368
         have p369 : 0 ≤ (x5_1 : Int) := of_decide_eq_true (by first | (with_reducible assumption) | assumption)
         have q369 : x5_1 < (l0.length : Int) := of_decide_eq_true (by first | (with_reducible assumption) | assumption)
         obtain ⟨ad369,e369,hx369_0,hx369_1,hx369_2,hx369_3⟩ := at_T84 HR0.out x5_1 p369 q369
         obtain rfl : ad367 = ad369 := (by injection e369)
         replace hx369_0 := (HB.out.cell (World.block_lt_of_cell? w _ hx369_0)).trans hx369_0
         replace hx369_1 := (HB.out.cell (World.block_lt_of_cell? w _ hx369_1)).trans hx369_1
         replace hx369_2 := (HB.out.cell (World.block_lt_of_cell? w _ hx369_2)).trans hx369_2
         replace hx369_3 := (HB.out.cell (World.block_lt_of_cell? w _ hx369_3)).trans hx369_3
         replace p369 := eq_true p369
         replace q369 := eq_true q369
         try go_wp2
         have n0_ := Aside0.mk (below_drew1 HB.out)
         clear HB
         have HB := n0_
         clear n0_
         have p370 : 0 ≤ (x5_1 : Int) := of_decide_eq_true (by first | (with_reducible assumption) | assumption)
         have q370 : x5_1 < (l0.length : Int) := of_decide_eq_true (by first | (with_reducible assumption) | assumption)
         obtain ⟨ad370,e370,hx370_0,hx370_1,hx370_2,hx370_3⟩ := at_T84 HR0.out x5_1 p370 q370
         have hw370_3 := hx370_3
         have hw370_2 := hx370_2
         have hw370_1 := hx370_1
         have hw370_0 := hx370_0
         obtain rfl : ad367 = ad370 := (by injection e370)
         replace hx370_0 := (HB.out.cell (World.block_lt_of_cell? w _ hx370_0)).trans hx370_0
         replace hx370_1 := (HB.out.cell (World.block_lt_of_cell? w _ hx370_1)).trans hx370_1
         replace hx370_2 := (HB.out.cell (World.block_lt_of_cell? w _ hx370_2)).trans hx370_2
         replace hx370_3 := (HB.out.cell (World.block_lt_of_cell? w _ hx370_3)).trans hx370_3
         replace p370 := eq_true p370
         replace q370 := eq_true q370
         refine start_ (n:=8) (S:=fun w' => w'.cell? (ad367.add ((x5_1).toNat * 4)) = some (.int .i64 ((rd_T84 l0 x5_1).f0)) ∧ w'.cell? ⟨(ad367.add ((x5_1).toNat * 4)).block,(ad367.add ((x5_1).toNat * 4)).off + 1,none⟩ = some (.int .i64 ((rd_T84 l0 x5_1).f1)) ∧ w'.cell? ⟨(ad367.add ((x5_1).toNat * 4)).block,(ad367.add ((x5_1).toNat * 4)).off + 2,none⟩ = some (.int .i64 ((rd_T84 l0 x5_1).f2)) ∧ w'.cell? ⟨(ad367.add ((x5_1).toNat * 4)).block,(ad367.add ((x5_1).toNat * 4)).off + 3,none⟩ = some (.string ((rd_T84 l0 x5_1).f3))) (ds := []) (bm 8 0) (by kernel_rfl) rfl rfl ⟨((HB.out.cell (World.block_lt_of_cell? w _ hw370_0)).trans hw370_0),((HB.out.cell (World.block_lt_of_cell? w _ hw370_1)).trans hw370_1),((HB.out.cell (World.block_lt_of_cell? w _ hw370_2)).trans hw370_2),((HB.out.cell (World.block_lt_of_cell? w _ hw370_3)).trans hw370_3)⟩ (fun hHeld => ?_); refine with_tabW laws_heldEntryS.tab13 laws_heldEntryS.bits13 (fun HT_ HW_ => ?_)
         generalize wr.drew = w10 at HB hx370_0 hx370_1 hx370_2 hx370_3 hHeld ⊢
         refine pV_ 0 39 (bm 8 1) HT_.out ?_
         refine pV_ 1 40 (bm 8 3) HT_.out ?_
         refine pV_ 2 41 (bm 8 7) HT_.out ?_
         refine pV_ 3 42 (bm 8 15) HT_.out ?_
         refine pV_ 5 44 (bm 8 47) HT_.out ?_
         refine take_ (i:=4) (N:=some 43) (v:=?_) (a':=?_) (bm 8 63) rfl rfl (take_ofW HT_.out HW_.out (by kernel_rfl)) (fun _ _ _ h => h) (Or.inl ⟨by rfl,?_⟩) hHeld ?_ ?_
         rotate_left
         ·rintro w' ⟨s0,s1,s2,s3⟩
          go_simp
          with_reducible rfl
         rotate_left
         ·simp only [Act.put,setIfInBounds_toArray,set_cons_zero,set_cons_succ,i64_w,i32_w]
          rfl
         refine one_ (i:=6) (N:=some 45) (bm 8 127) rfl rfl (one_of HT_.out (by kernel_rfl)) (by decide) (fun K hK => ?_)
         refine goes_ Tryd.func42 (by kernel_rfl) rfl #[.int .i64 (wrap64 ((wrap64 ((wrap64 (x1_1 + 1)) + 1)) + 1))] (by rfl) rfl rfl mA ?_
         with_reducible refine (laws_markText.calls k1 (wrap64 ((wrap64 ((wrap64 (x1_1 + 1)) + 1)) + 1)) t371 _ A8.out).mono ?_
         rintro e w11 ⟨rfl,hb⟩
         refine ⟨_,rfl,?_⟩
         have n0_ := Aside0.mk (below_step bA hb)
         clear HB
         have HB := n0_
         clear n0_
         (try clear hb)
         (try clear hb2)
         (try clear hk)
         (try clear hi)
         refine hK.out _ _ ⟨((HB.out.cell (World.block_lt_of_cell? w _ hw370_0)).trans hw370_0),((HB.out.cell (World.block_lt_of_cell? w _ hw370_1)).trans hw370_1),((HB.out.cell (World.block_lt_of_cell? w _ hw370_2)).trans hw370_2),((HB.out.cell (World.block_lt_of_cell? w _ hw370_3)).trans hw370_3)⟩ (fun hHeld => ?_)
         clear hK K
         refine norm_ (a':=?_) ?_ ?_
         rotate_left
         ·show Act.put _ (some 45) _ = _
          simp only [Act.put,setIfInBounds_toArray,set_cons_zero,set_cons_succ,i64_w,i32_w]
          rfl
         refine pV_ 7 46 (bm 8 255) HT_.out ?_
         refine done_ (done_of HT_.out (by kernel_rfl)) ?_
         try go_wp2
         go_roundg k1
         case measure => have := HK1.out; omega
         case rel => exact ⟨(wrap64 ((wrap64 ((wrap64 ((wrap64 (x1_1 + 1)) + 1)) + 1)) + 1)),(wrap64 (x5_1 + 1)),(by first | rfl | (simp; done) | (simp [*]; done)),(by first | rfl | (simp; done) | (simp [*]; done)),H',⟨by have := HK1.out; omega⟩,⟨bA⟩⟩
        ·rw [if_neg c9] at H
         have c9b0 : (((rd_T84 l0 x5_1).f3).toList == t371.toList) = false := beq_eq_false_iff_ne.mpr c9
         have c9b1 : (((rd_T84 l0 x5_1).f3).toList != t371.toList) = true := bne_iff_ne.mpr c9
         obtain rfl := Option.some.inj H
         have p367 : 0 ≤ (x5_1 : Int) := of_decide_eq_true (by first | (with_reducible assumption) | assumption)
         have q367 : x5_1 < (l0.length : Int) := of_decide_eq_true (by first | (with_reducible assumption) | assumption)
         obtain ⟨ad367,e367,hx367_0,hx367_1,hx367_2,hx367_3⟩ := at_T84 HR0.out x5_1 p367 q367
         cases e367
         replace hx367_0 := (HB.out.cell (World.block_lt_of_cell? w _ hx367_0)).trans hx367_0
         replace hx367_1 := (HB.out.cell (World.block_lt_of_cell? w _ hx367_1)).trans hx367_1
         replace hx367_2 := (HB.out.cell (World.block_lt_of_cell? w _ hx367_2)).trans hx367_2
         replace hx367_3 := (HB.out.cell (World.block_lt_of_cell? w _ hx367_3)).trans hx367_3
         replace p367 := eq_true p367
         replace q367 := eq_true q367
         have p368 : 0 ≤ (x5_1 : Int) := of_decide_eq_true (by first | (with_reducible assumption) | assumption)
         have q368 : x5_1 < (l0.length : Int) := of_decide_eq_true (by first | (with_reducible assumption) | assumption)
         obtain ⟨ad368,e368,hx368_0,hx368_1,hx368_2,hx368_3⟩ := at_T84 HR0.out x5_1 p368 q368
         obtain rfl : ad367 = ad368 := (by injection e368)
         replace hx368_0 := (HB.out.cell (World.block_lt_of_cell? w _ hx368_0)).trans hx368_0
         replace hx368_1 := (HB.out.cell (World.block_lt_of_cell? w _ hx368_1)).trans hx368_1
         replace hx368_2 := (HB.out.cell (World.block_lt_of_cell? w _ hx368_2)).trans hx368_2
         replace hx368_3 := (HB.out.cell (World.block_lt_of_cell? w _ hx368_3)).trans hx368_3
         replace p368 := eq_true p368
         replace q368 := eq_true q368
         have p369 : 0 ≤ (x5_1 : Int) := of_decide_eq_true (by first | (with_reducible assumption) | assumption)
         have q369 : x5_1 < (l0.length : Int) := of_decide_eq_true (by first | (with_reducible assumption) | assumption)
         obtain ⟨ad369,e369,hx369_0,hx369_1,hx369_2,hx369_3⟩ := at_T84 HR0.out x5_1 p369 q369
         obtain rfl : ad367 = ad369 := (by injection e369)
         replace hx369_0 := (HB.out.cell (World.block_lt_of_cell? w _ hx369_0)).trans hx369_0
         replace hx369_1 := (HB.out.cell (World.block_lt_of_cell? w _ hx369_1)).trans hx369_1
         replace hx369_2 := (HB.out.cell (World.block_lt_of_cell? w _ hx369_2)).trans hx369_2
         replace hx369_3 := (HB.out.cell (World.block_lt_of_cell? w _ hx369_3)).trans hx369_3
         replace p369 := eq_true p369
         replace q369 := eq_true q369
         try go_wp2
         have n0_ := Aside0.mk (below_drew1 HB.out)
         clear HB
         have HB := n0_
         clear n0_
         have p370 : 0 ≤ (x5_1 : Int) := of_decide_eq_true (by first | (with_reducible assumption) | assumption)
         have q370 : x5_1 < (l0.length : Int) := of_decide_eq_true (by first | (with_reducible assumption) | assumption)
         obtain ⟨ad370,e370,hx370_0,hx370_1,hx370_2,hx370_3⟩ := at_T84 HR0.out x5_1 p370 q370
         have hw370_3 := hx370_3
         have hw370_2 := hx370_2
         have hw370_1 := hx370_1
         have hw370_0 := hx370_0
         obtain rfl : ad367 = ad370 := (by injection e370)
         replace hx370_0 := (HB.out.cell (World.block_lt_of_cell? w _ hx370_0)).trans hx370_0
         replace hx370_1 := (HB.out.cell (World.block_lt_of_cell? w _ hx370_1)).trans hx370_1
         replace hx370_2 := (HB.out.cell (World.block_lt_of_cell? w _ hx370_2)).trans hx370_2
         replace hx370_3 := (HB.out.cell (World.block_lt_of_cell? w _ hx370_3)).trans hx370_3
         replace p370 := eq_true p370
         replace q370 := eq_true q370
         refine start_ (n:=8) (S:=fun w' => w'.cell? (ad367.add ((x5_1).toNat * 4)) = some (.int .i64 ((rd_T84 l0 x5_1).f0)) ∧ w'.cell? ⟨(ad367.add ((x5_1).toNat * 4)).block,(ad367.add ((x5_1).toNat * 4)).off + 1,none⟩ = some (.int .i64 ((rd_T84 l0 x5_1).f1)) ∧ w'.cell? ⟨(ad367.add ((x5_1).toNat * 4)).block,(ad367.add ((x5_1).toNat * 4)).off + 2,none⟩ = some (.int .i64 ((rd_T84 l0 x5_1).f2)) ∧ w'.cell? ⟨(ad367.add ((x5_1).toNat * 4)).block,(ad367.add ((x5_1).toNat * 4)).off + 3,none⟩ = some (.string ((rd_T84 l0 x5_1).f3))) (ds := []) (bm 8 0) (by kernel_rfl) rfl rfl ⟨((HB.out.cell (World.block_lt_of_cell? w _ hw370_0)).trans hw370_0),((HB.out.cell (World.block_lt_of_cell? w _ hw370_1)).trans hw370_1),((HB.out.cell (World.block_lt_of_cell? w _ hw370_2)).trans hw370_2),((HB.out.cell (World.block_lt_of_cell? w _ hw370_3)).trans hw370_3)⟩ (fun hHeld => ?_); refine with_tabW laws_heldEntryS.tab13 laws_heldEntryS.bits13 (fun HT_ HW_ => ?_)
         generalize wr.drew = w12 at HB hx370_0 hx370_1 hx370_2 hx370_3 hHeld ⊢
         refine pV_ 0 39 (bm 8 1) HT_.out ?_
         refine pV_ 1 40 (bm 8 3) HT_.out ?_
         refine pV_ 2 41 (bm 8 7) HT_.out ?_
         refine pV_ 3 42 (bm 8 15) HT_.out ?_
         refine pV_ 5 44 (bm 8 47) HT_.out ?_
         refine take_ (i:=4) (N:=some 43) (v:=?_) (a':=?_) (bm 8 63) rfl rfl (take_ofW HT_.out HW_.out (by kernel_rfl)) (fun _ _ _ h => h) (Or.inl ⟨by rfl,?_⟩) hHeld ?_ ?_
         rotate_left
         ·rintro w' ⟨s0,s1,s2,s3⟩
          go_simp
          with_reducible rfl
         rotate_left
         ·simp only [Act.put,setIfInBounds_toArray,set_cons_zero,set_cons_succ,i64_w,i32_w]
          rfl
         refine one_ (i:=6) (N:=some 45) (bm 8 127) rfl rfl (one_of HT_.out (by kernel_rfl)) (by decide) (fun K hK => ?_)
         refine goes_ Tryd.func42 (by kernel_rfl) rfl #[.int .i64 (wrap64 ((wrap64 ((wrap64 (x1_1 + 1)) + 1)) + 1))] (by rfl) rfl rfl mA ?_
         with_reducible refine (laws_markText.calls k1 (wrap64 ((wrap64 ((wrap64 (x1_1 + 1)) + 1)) + 1)) t371 _ A8.out).mono ?_
         rintro e w13 ⟨rfl,hb⟩
         refine ⟨_,rfl,?_⟩
         have n0_ := Aside0.mk (below_step bA hb)
         clear HB
         have HB := n0_
         clear n0_
         (try clear hb)
         (try clear hb2)
         (try clear hk)
         (try clear hi)
         refine hK.out _ _ ⟨((HB.out.cell (World.block_lt_of_cell? w _ hw370_0)).trans hw370_0),((HB.out.cell (World.block_lt_of_cell? w _ hw370_1)).trans hw370_1),((HB.out.cell (World.block_lt_of_cell? w _ hw370_2)).trans hw370_2),((HB.out.cell (World.block_lt_of_cell? w _ hw370_3)).trans hw370_3)⟩ (fun hHeld => ?_)
         clear hK K
         refine norm_ (a':=?_) ?_ ?_
         rotate_left
         ·show Act.put _ (some 45) _ = _
          simp only [Act.put,setIfInBounds_toArray,set_cons_zero,set_cons_succ,i64_w,i32_w]
          rfl
         refine pV_ 7 46 (bm 8 255) HT_.out ?_
         refine done_ (done_of HT_.out (by kernel_rfl)) ?_
         try go_wp2
         go_ret
         exact ⟨by first | rfl | (simp only [i64_w,i32_w] <;> rfl) | (simp [errW_none,errW_some] <;> rfl) | (simp [*,errW_none,errW_some] <;> rfl),bA⟩
       ·rw [if_neg c7] at H
        have c7b0 : (((rd_T84 l0 x5_1).f2) == (wrap64 ((wrap64 (x1_1 + 1)) + 1))) = false := beq_eq_false_iff_ne.mpr c7
        have c7b1 : (((rd_T84 l0 x5_1).f2) != (wrap64 ((wrap64 (x1_1 + 1)) + 1))) = true := bne_iff_ne.mpr c7
        obtain rfl := Option.some.inj H
        have p367 : 0 ≤ (x5_1 : Int) := of_decide_eq_true (by first | (with_reducible assumption) | assumption)
        have q367 : x5_1 < (l0.length : Int) := of_decide_eq_true (by first | (with_reducible assumption) | assumption)
        obtain ⟨ad367,e367,hx367_0,hx367_1,hx367_2,hx367_3⟩ := at_T84 HR0.out x5_1 p367 q367
        cases e367
        replace hx367_0 := (HB.out.cell (World.block_lt_of_cell? w _ hx367_0)).trans hx367_0
        replace hx367_1 := (HB.out.cell (World.block_lt_of_cell? w _ hx367_1)).trans hx367_1
        replace hx367_2 := (HB.out.cell (World.block_lt_of_cell? w _ hx367_2)).trans hx367_2
        replace hx367_3 := (HB.out.cell (World.block_lt_of_cell? w _ hx367_3)).trans hx367_3
        replace p367 := eq_true p367
        replace q367 := eq_true q367
        have p368 : 0 ≤ (x5_1 : Int) := of_decide_eq_true (by first | (with_reducible assumption) | assumption)
        have q368 : x5_1 < (l0.length : Int) := of_decide_eq_true (by first | (with_reducible assumption) | assumption)
        obtain ⟨ad368,e368,hx368_0,hx368_1,hx368_2,hx368_3⟩ := at_T84 HR0.out x5_1 p368 q368
        obtain rfl : ad367 = ad368 := (by injection e368)
        replace hx368_0 := (HB.out.cell (World.block_lt_of_cell? w _ hx368_0)).trans hx368_0
        replace hx368_1 := (HB.out.cell (World.block_lt_of_cell? w _ hx368_1)).trans hx368_1
        replace hx368_2 := (HB.out.cell (World.block_lt_of_cell? w _ hx368_2)).trans hx368_2
        replace hx368_3 := (HB.out.cell (World.block_lt_of_cell? w _ hx368_3)).trans hx368_3
        replace p368 := eq_true p368
        replace q368 := eq_true q368
        have p369 : 0 ≤ (x5_1 : Int) := of_decide_eq_true (by first | (with_reducible assumption) | assumption)
        have q369 : x5_1 < (l0.length : Int) := of_decide_eq_true (by first | (with_reducible assumption) | assumption)
        obtain ⟨ad369,e369,hx369_0,hx369_1,hx369_2,hx369_3⟩ := at_T84 HR0.out x5_1 p369 q369
        obtain rfl : ad367 = ad369 := (by injection e369)
        replace hx369_0 := (HB.out.cell (World.block_lt_of_cell? w _ hx369_0)).trans hx369_0
        replace hx369_1 := (HB.out.cell (World.block_lt_of_cell? w _ hx369_1)).trans hx369_1
        replace hx369_2 := (HB.out.cell (World.block_lt_of_cell? w _ hx369_2)).trans hx369_2
        replace hx369_3 := (HB.out.cell (World.block_lt_of_cell? w _ hx369_3)).trans hx369_3
        replace p369 := eq_true p369
        replace q369 := eq_true q369
        go_wp2
        go_ret
        exact ⟨by first | rfl | (simp only [i64_w,i32_w] <;> rfl) | (simp [errW_none,errW_some] <;> rfl) | (simp [*,errW_none,errW_some] <;> rfl),bA⟩
      ·rw [if_neg c6] at H
       have c6b0 : (((rd_T84 l0 x5_1).f1) == (wrap64 (x1_1 + 1))) = false := beq_eq_false_iff_ne.mpr c6
       have c6b1 : (((rd_T84 l0 x5_1).f1) != (wrap64 (x1_1 + 1))) = true := bne_iff_ne.mpr c6
       obtain rfl := Option.some.inj H
       have p367 : 0 ≤ (x5_1 : Int) := of_decide_eq_true (by first | (with_reducible assumption) | assumption)
       have q367 : x5_1 < (l0.length : Int) := of_decide_eq_true (by first | (with_reducible assumption) | assumption)
       obtain ⟨ad367,e367,hx367_0,hx367_1,hx367_2,hx367_3⟩ := at_T84 HR0.out x5_1 p367 q367
       cases e367
       replace hx367_0 := (HB.out.cell (World.block_lt_of_cell? w _ hx367_0)).trans hx367_0
       replace hx367_1 := (HB.out.cell (World.block_lt_of_cell? w _ hx367_1)).trans hx367_1
       replace hx367_2 := (HB.out.cell (World.block_lt_of_cell? w _ hx367_2)).trans hx367_2
       replace hx367_3 := (HB.out.cell (World.block_lt_of_cell? w _ hx367_3)).trans hx367_3
       replace p367 := eq_true p367
       replace q367 := eq_true q367
       have p368 : 0 ≤ (x5_1 : Int) := of_decide_eq_true (by first | (with_reducible assumption) | assumption)
       have q368 : x5_1 < (l0.length : Int) := of_decide_eq_true (by first | (with_reducible assumption) | assumption)
       obtain ⟨ad368,e368,hx368_0,hx368_1,hx368_2,hx368_3⟩ := at_T84 HR0.out x5_1 p368 q368
       obtain rfl : ad367 = ad368 := (by injection e368)
       replace hx368_0 := (HB.out.cell (World.block_lt_of_cell? w _ hx368_0)).trans hx368_0
       replace hx368_1 := (HB.out.cell (World.block_lt_of_cell? w _ hx368_1)).trans hx368_1
       replace hx368_2 := (HB.out.cell (World.block_lt_of_cell? w _ hx368_2)).trans hx368_2
       replace hx368_3 := (HB.out.cell (World.block_lt_of_cell? w _ hx368_3)).trans hx368_3
       replace p368 := eq_true p368
       replace q368 := eq_true q368
       go_wp2
       go_ret
       exact ⟨by first | rfl | (simp only [i64_w,i32_w] <;> rfl) | (simp [errW_none,errW_some] <;> rfl) | (simp [*,errW_none,errW_some] <;> rfl),bA⟩
     ·rw [if_neg c5] at H
      have c5b0 : (((rd_T84 l0 x5_1).f0) == x1_1) = false := beq_eq_false_iff_ne.mpr c5
      have c5b1 : (((rd_T84 l0 x5_1).f0) != x1_1) = true := bne_iff_ne.mpr c5
      obtain rfl := Option.some.inj H
      have p367 : 0 ≤ (x5_1 : Int) := of_decide_eq_true (by first | (with_reducible assumption) | assumption)
      have q367 : x5_1 < (l0.length : Int) := of_decide_eq_true (by first | (with_reducible assumption) | assumption)
      obtain ⟨ad367,e367,hx367_0,hx367_1,hx367_2,hx367_3⟩ := at_T84 HR0.out x5_1 p367 q367
      cases e367
      replace hx367_0 := (HB.out.cell (World.block_lt_of_cell? w _ hx367_0)).trans hx367_0
      replace hx367_1 := (HB.out.cell (World.block_lt_of_cell? w _ hx367_1)).trans hx367_1
      replace hx367_2 := (HB.out.cell (World.block_lt_of_cell? w _ hx367_2)).trans hx367_2
      replace hx367_3 := (HB.out.cell (World.block_lt_of_cell? w _ hx367_3)).trans hx367_3
      replace p367 := eq_true p367
      replace q367 := eq_true q367
      go_wp2
      go_ret
      exact ⟨by first | rfl | (simp only [i64_w,i32_w] <;> rfl) | (simp [errW_none,errW_some] <;> rfl) | (simp [*,errW_none,errW_some] <;> rfl),bA⟩
    ·rw [if_neg c4] at H
     exact absurd H (by simp)
   ·rw [if_neg c3] at H
    have c3b0 : decide (x5_1 < (l0.length : Int)) = false := decide_eq_false c3
    clear c3
    obtain rfl := Option.some.inj H
    go_wp2
    go_ret
    exact ⟨by first | rfl | (simp only [i64_w,i32_w] <;> rfl) | (simp [errW_none,errW_some] <;> rfl) | (simp [*,errW_none,errW_some] <;> rfl),bA⟩

/-! ### laws_heldReader: function 30 -/
def laws_heldReader.f (k : Nat) (a0_0 : Int) (a0_1 : Int) (a0_2 : Int) (a0_3 : Int) (a0_4 : Int) (a0_5 : Int) (a0_6 : Int) (l0_7 : List (S84)) (a0_8 : Int) (a0_9 : Int) (a0_10 : Int) (a0_11 : Int) (a0_12 : Int) (a0_13 : Int) (a1 : Int) : Option (Int) := (laws_heldEntryS.f k l0_7 a1).bind fun t373 => (if t373 < 0 then (some (-1)) else (some t373))
theorem laws_heldReader.mono : ∀ a0 a1 a2 a3 a4 a5 a6 a7 a8 a9 a10 a11 a12 a13 a14 k,LeO (laws_heldReader.f k a0 a1 a2 a3 a4 a5 a6 a7 a8 a9 a10 a11 a12 a13 a14) (laws_heldReader.f (k + 1) a0 a1 a2 a3 a4 a5 a6 a7 a8 a9 a10 a11 a12 a13 a14) := by
 intro a0 a1 a2 a3 a4 a5 a6 a7 a8 a9 a10 a11 a12 a13 a14 k
 unfold laws_heldReader.f
 repeat' first
   | (with_reducible exact laws_heldEntryS.mono _ _ _)
   | (with_reducible exact LeO.refl _)
   | (with_reducible exact LeO.none _)
   | (with_reducible refine LeO.ite ?_ ?_)
   | (with_reducible refine LeO.bind ?_ (fun _ => ?_))
   | exact laws_heldEntryS.mono _ _ _
   | exact LeO.none _
   | refine LeO.ite ?_ ?_
   | refine LeO.bind ?_ (fun _ => ?_)
set_option maxHeartbeats 8000000 in
set_option maxRecDepth 100000 in
theorem laws_heldReader.calls (k : Nat) (a0_0 : Int) (a0_1 : Int) (a0_2 : Int) (a0_3 : Int) (a0_4 : Int) (a0_5 : Int) (a0_6 : Int) (A0_7 : Option Addr) (c0_7 : Nat) (l0_7 : List (S84)) (a0_8 : Int) (a0_9 : Int) (a0_10 : Int) (a0_11 : Int) (a0_12 : Int) (a0_13 : Int) (a1 : Int) (r : Int) (w : World) (hr0_7 : Kd.C k84 w A0_7 l0_7.length l0_7) (hc0_7 : l0_7.length ≤ c0_7) (h : laws_heldReader.f k a0_0 a0_1 a0_2 a0_3 a0_4 a0_5 a0_6 l0_7 a0_8 a0_9 a0_10 a0_11 a0_12 a0_13 a1 = some r) :
  Calls Tryd.prog 30 #[.agg #[.int .i64 a0_0,.int .i64 a0_1,.int .i64 a0_2,.int .i64 a0_3,.int .i64 a0_4,.int .i64 a0_5,.int .i64 a0_6,.slice A0_7 l0_7.length c0_7,.int .i64 a0_8,.int .i64 a0_9,.int .i64 a0_10,.int .i64 a0_11,.int .i64 a0_12,.int .i64 a0_13],.int .i64 a1] w fun e w' => e = .returned (.int .i64 r) ∧ Below w.heap.size w w' := by
 have hu60 := Tryd.underlying60
 have HR0_7 := Aside0.mk hr0_7
 have HC0_7 := Aside0.mk hc0_7
 clear hr0_7 hc0_7
 have HB := Aside0.mk (Below.refl w.heap.size w)
 have H : ((laws_heldEntryS.f k l0_7 a1).bind fun t373 => (if t373 < 0 then (some (-1)) else (some t373))) = some r := h
 clear h
 replace H := Option.bind_eq_some_iff.mp H
 obtain ⟨t373,A30,H⟩ := H
 try dsimp only at H
 have A3 := Aside0.mk A30
 clear A30
 by_cases c4 : t373 < 0
 ·rw [if_pos c4] at H
  have c4b0 : decide (t373 < 0) = true := decide_eq_true c4
  clear c4
  obtain rfl := Option.some.inj H
  go_enter Tryd.func30,Tryd.ntmps30
  go_wp2_with (first | ((with_reducible refine gate_dst (N:=2) rfl ?_); refine box_event ?hg (N:=2) ?hd (cs := #[.int .i64 a0_0,.int .i64 a0_1,.int .i64 a0_2,.int .i64 a0_3,.int .i64 a0_4,.int .i64 a0_5,.int .i64 a0_6,.slice A0_7 l0_7.length c0_7,.int .i64 a0_8,.int .i64 a0_9,.int .i64 a0_10,.int .i64 a0_11,.int .i64 a0_12,.int .i64 a0_13]) (t:=60) ?hr ?_; (case hd => rfl); (case hg => rfl); (case hr => first | (go_simp; done) | (go_simp; rfl)); intro gb372 hg w5 hbox hb; have n0_ := Aside0.mk (below_step bA hb); have n1_ := Aside0.mk (hbox); have n2_ := Aside0.mk ((by rw [hg]; exact (below_size bA) : w.heap.size ≤ gb372)); have n3_ := Aside0.mk ((by rw [hg]; exact (below_size bA) : w.heap.size ≤ gb372)); clear HB; have HB := n0_; have BK372 := n1_; have GW372 := n2_; have GE372 := n3_; clear n0_ n1_ n2_ n3_; clear hb hbox hg; have hcz6_0 : w5.cell? ⟨gb372,0,none⟩ = some (.int .i64 a0_0) := (blk_cell BK372.out 0).trans rfl; have hcz6_1 : w5.cell? ⟨gb372,1,none⟩ = some (.int .i64 a0_1) := (blk_cell BK372.out 1).trans rfl; have hcz6_2 : w5.cell? ⟨gb372,2,none⟩ = some (.int .i64 a0_2) := (blk_cell BK372.out 2).trans rfl; have hcz6_3 : w5.cell? ⟨gb372,3,none⟩ = some (.int .i64 a0_3) := (blk_cell BK372.out 3).trans rfl; have hcz6_4 : w5.cell? ⟨gb372,4,none⟩ = some (.int .i64 a0_4) := (blk_cell BK372.out 4).trans rfl; have hcz6_5 : w5.cell? ⟨gb372,5,none⟩ = some (.int .i64 a0_5) := (blk_cell BK372.out 5).trans rfl; have hcz6_6 : w5.cell? ⟨gb372,6,none⟩ = some (.int .i64 a0_6) := (blk_cell BK372.out 6).trans rfl; have hcz6_7 : w5.cell? ⟨gb372,7,none⟩ = some (.slice A0_7 l0_7.length c0_7) := (blk_cell BK372.out 7).trans rfl; have hcz6_8 : w5.cell? ⟨gb372,8,none⟩ = some (.int .i64 a0_8) := (blk_cell BK372.out 8).trans rfl; have hcz6_9 : w5.cell? ⟨gb372,9,none⟩ = some (.int .i64 a0_9) := (blk_cell BK372.out 9).trans rfl; have hcz6_10 : w5.cell? ⟨gb372,10,none⟩ = some (.int .i64 a0_10) := (blk_cell BK372.out 10).trans rfl; have hcz6_11 : w5.cell? ⟨gb372,11,none⟩ = some (.int .i64 a0_11) := (blk_cell BK372.out 11).trans rfl; have hcz6_12 : w5.cell? ⟨gb372,12,none⟩ = some (.int .i64 a0_12) := (blk_cell BK372.out 12).trans rfl; have hcz6_13 : w5.cell? ⟨gb372,13,none⟩ = some (.int .i64 a0_13) := (blk_cell BK372.out 13).trans rfl; have hfz6_0 := blk_frozen BK372.out 0; have hfz6_1 := blk_frozen BK372.out 1; have hfz6_2 := blk_frozen BK372.out 2; have hfz6_3 := blk_frozen BK372.out 3; have hfz6_4 := blk_frozen BK372.out 4; have hfz6_5 := blk_frozen BK372.out 5; have hfz6_6 := blk_frozen BK372.out 6; have hfz6_7 := blk_frozen BK372.out 7; have hfz6_8 := blk_frozen BK372.out 8; have hfz6_9 := blk_frozen BK372.out 9; have hfz6_10 := blk_frozen BK372.out 10; have hfz6_11 := blk_frozen BK372.out 11; have hfz6_12 := blk_frozen BK372.out 12; have hfz6_13 := blk_frozen BK372.out 13) | ((with_reducible refine gate_callee (f:=74) rfl ?_); refine goesL_ (some 8) rfl rfl Tryd.func74 (by kernel_rfl) rfl #[.slice A0_7 l0_7.length c0_7,.int .i64 a1] rfl mA ?_; (with_reducible refine (laws_heldEntryS.calls k _ _ l0_7 a1 t373 _ ?side1 ?side2 A3.out).mono ?_); (case side1 => repeat (first | exact (Kd.C_below HR0_7.out HB.out) | (with_reducible refine Kd.C_alloc ?_ _) | (with_reducible refine Kd.C_drewN ?_ _) | (with_reducible refine Kd.C_drew ?_))); (case side2 => exact HC0_7.out); rintro e w7 ⟨rfl,hb⟩; refine ⟨_,rfl,?_⟩; have n0_ := Aside0.mk (blk_below (g:=gb372) (o:=.cells #[.int .i64 a0_0,.int .i64 a0_1,.int .i64 a0_2,.int .i64 a0_3,.int .i64 a0_4,.int .i64 a0_5,.int .i64 a0_6,.slice A0_7 l0_7.length c0_7,.int .i64 a0_8,.int .i64 a0_9,.int .i64 a0_10,.int .i64 a0_11,.int .i64 a0_12,.int .i64 a0_13] 60 (0,0)) (kA BK372.out) hb); have n1_ := Aside0.mk (below_step bA hb); clear BK372; clear HB; have BK372 := n0_; have HB := n1_; clear n0_ n1_; (try clear hb); (try clear hb2); (try clear hk); (try clear hi)))
  go_ret
  exact ⟨by first | rfl | (simp [errW_none,errW_some] <;> rfl) | (simp [*,errW_none,errW_some] <;> rfl),bA⟩
 ·rw [if_neg c4] at H
  have c4b0 : decide (t373 < 0) = false := decide_eq_false c4
  clear c4
  obtain rfl := Option.some.inj H
  go_enter Tryd.func30,Tryd.ntmps30
  go_wp2_with (first | ((with_reducible refine gate_dst (N:=2) rfl ?_); refine box_event ?hg (N:=2) ?hd (cs := #[.int .i64 a0_0,.int .i64 a0_1,.int .i64 a0_2,.int .i64 a0_3,.int .i64 a0_4,.int .i64 a0_5,.int .i64 a0_6,.slice A0_7 l0_7.length c0_7,.int .i64 a0_8,.int .i64 a0_9,.int .i64 a0_10,.int .i64 a0_11,.int .i64 a0_12,.int .i64 a0_13]) (t:=60) ?hr ?_; (case hd => rfl); (case hg => rfl); (case hr => first | (go_simp; done) | (go_simp; rfl)); intro gb372 hg w8 hbox hb; have n0_ := Aside0.mk (below_step bA hb); have n1_ := Aside0.mk (hbox); have n2_ := Aside0.mk ((by rw [hg]; exact (below_size bA) : w.heap.size ≤ gb372)); have n3_ := Aside0.mk ((by rw [hg]; exact (below_size bA) : w.heap.size ≤ gb372)); clear HB; have HB := n0_; have BK372 := n1_; have GW372 := n2_; have GE372 := n3_; clear n0_ n1_ n2_ n3_; clear hb hbox hg; have hcz9_0 : w8.cell? ⟨gb372,0,none⟩ = some (.int .i64 a0_0) := (blk_cell BK372.out 0).trans rfl; have hcz9_1 : w8.cell? ⟨gb372,1,none⟩ = some (.int .i64 a0_1) := (blk_cell BK372.out 1).trans rfl; have hcz9_2 : w8.cell? ⟨gb372,2,none⟩ = some (.int .i64 a0_2) := (blk_cell BK372.out 2).trans rfl; have hcz9_3 : w8.cell? ⟨gb372,3,none⟩ = some (.int .i64 a0_3) := (blk_cell BK372.out 3).trans rfl; have hcz9_4 : w8.cell? ⟨gb372,4,none⟩ = some (.int .i64 a0_4) := (blk_cell BK372.out 4).trans rfl; have hcz9_5 : w8.cell? ⟨gb372,5,none⟩ = some (.int .i64 a0_5) := (blk_cell BK372.out 5).trans rfl; have hcz9_6 : w8.cell? ⟨gb372,6,none⟩ = some (.int .i64 a0_6) := (blk_cell BK372.out 6).trans rfl; have hcz9_7 : w8.cell? ⟨gb372,7,none⟩ = some (.slice A0_7 l0_7.length c0_7) := (blk_cell BK372.out 7).trans rfl; have hcz9_8 : w8.cell? ⟨gb372,8,none⟩ = some (.int .i64 a0_8) := (blk_cell BK372.out 8).trans rfl; have hcz9_9 : w8.cell? ⟨gb372,9,none⟩ = some (.int .i64 a0_9) := (blk_cell BK372.out 9).trans rfl; have hcz9_10 : w8.cell? ⟨gb372,10,none⟩ = some (.int .i64 a0_10) := (blk_cell BK372.out 10).trans rfl; have hcz9_11 : w8.cell? ⟨gb372,11,none⟩ = some (.int .i64 a0_11) := (blk_cell BK372.out 11).trans rfl; have hcz9_12 : w8.cell? ⟨gb372,12,none⟩ = some (.int .i64 a0_12) := (blk_cell BK372.out 12).trans rfl; have hcz9_13 : w8.cell? ⟨gb372,13,none⟩ = some (.int .i64 a0_13) := (blk_cell BK372.out 13).trans rfl; have hfz9_0 := blk_frozen BK372.out 0; have hfz9_1 := blk_frozen BK372.out 1; have hfz9_2 := blk_frozen BK372.out 2; have hfz9_3 := blk_frozen BK372.out 3; have hfz9_4 := blk_frozen BK372.out 4; have hfz9_5 := blk_frozen BK372.out 5; have hfz9_6 := blk_frozen BK372.out 6; have hfz9_7 := blk_frozen BK372.out 7; have hfz9_8 := blk_frozen BK372.out 8; have hfz9_9 := blk_frozen BK372.out 9; have hfz9_10 := blk_frozen BK372.out 10; have hfz9_11 := blk_frozen BK372.out 11; have hfz9_12 := blk_frozen BK372.out 12; have hfz9_13 := blk_frozen BK372.out 13) | ((with_reducible refine gate_callee (f:=74) rfl ?_); refine goesL_ (some 8) rfl rfl Tryd.func74 (by kernel_rfl) rfl #[.slice A0_7 l0_7.length c0_7,.int .i64 a1] rfl mA ?_; (with_reducible refine (laws_heldEntryS.calls k _ _ l0_7 a1 t373 _ ?side1 ?side2 A3.out).mono ?_); (case side1 => repeat (first | exact (Kd.C_below HR0_7.out HB.out) | (with_reducible refine Kd.C_alloc ?_ _) | (with_reducible refine Kd.C_drewN ?_ _) | (with_reducible refine Kd.C_drew ?_))); (case side2 => exact HC0_7.out); rintro e w10 ⟨rfl,hb⟩; refine ⟨_,rfl,?_⟩; have n0_ := Aside0.mk (blk_below (g:=gb372) (o:=.cells #[.int .i64 a0_0,.int .i64 a0_1,.int .i64 a0_2,.int .i64 a0_3,.int .i64 a0_4,.int .i64 a0_5,.int .i64 a0_6,.slice A0_7 l0_7.length c0_7,.int .i64 a0_8,.int .i64 a0_9,.int .i64 a0_10,.int .i64 a0_11,.int .i64 a0_12,.int .i64 a0_13] 60 (0,0)) (kA BK372.out) hb); have n1_ := Aside0.mk (below_step bA hb); clear BK372; clear HB; have BK372 := n0_; have HB := n1_; clear n0_ n1_; (try clear hb); (try clear hb2); (try clear hk); (try clear hi)))
  go_ret
  exact ⟨by first | rfl | (simp [errW_none,errW_some] <;> rfl) | (simp [*,errW_none,errW_some] <;> rfl),bA⟩

end Go.Proofs.YtleifhnoaaphmaaDoor.XFnExactAskReader
