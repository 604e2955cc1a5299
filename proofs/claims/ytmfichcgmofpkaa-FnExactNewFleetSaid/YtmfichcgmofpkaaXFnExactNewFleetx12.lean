-- Printed by this session's own program wip/tools/xprint.py, which widens the kit's print. Not trusted: Lean checks it.
import Derived.Test.YtmfichcgmofpkaaXFnExactNewFleetx0
import Derived.Test.YtmfichcgmofpkaaXFnExactNewFleetx8
namespace Go.Proofs.Ytmfichcgmofpkaa.XFnExactNewFleet
open List (setIfInBounds_toArray set_cons_zero set_cons_succ)
open Go.RowKit Go.Proofs.YtmfichcgmofpkaaW.PrintWords Go.Proofs.YtmfichcgmofpkaaW.PrintLast Go.Proofs.YtmfichcgmofpkaaW.PrintMore
attribute [local go_sem] max2_int min2_int max_two min_two max_three min_three max_four min_four   -- for this text's walks alone
set_option linter.unusedVariables false
set_option linter.unusedSimpArgs false

/-! ### laws_heldEntryS: function 44 -/
def laws_heldEntryS.l0 : Nat → List (S90) → Int → Int → Option (Int)
 | 0,_,_,_ => none
 | k + 1,x0,x1,x5 => if x5 < (x0.length : Int) then (if 0 ≤ x5 then (if ((rd_T90 x0 x5).f0) = x1 then (if ((rd_T90 x0 x5).f1) = (wrap64 (x1 + 1)) then (if ((rd_T90 x0 x5).f2) = (wrap64 ((wrap64 (x1 + 1)) + 1)) then ((laws_markText.f k (wrap64 ((wrap64 ((wrap64 (x1 + 1)) + 1)) + 1))).bind fun t373 => (if ((rd_T90 x0 x5).f3).toList = t373.toList then (laws_heldEntryS.l0 k x0 (wrap64 ((wrap64 ((wrap64 ((wrap64 (x1 + 1)) + 1)) + 1)) + 1)) (wrap64 (x5 + 1))) else (some (-1)))) else (some (-1))) else (some (-1))) else (some (-1))) else (none)) else (some x1)
def laws_heldEntryS.f (k : Nat) (l0 : List (S90)) (a1 : Int) : Option (Int) := laws_heldEntryS.l0 k l0 a1 0
theorem laws_heldEntryS.mono_l : ∀ k,(∀ y0 y1 y2,LeO (laws_heldEntryS.l0 k y0 y1 y2) (laws_heldEntryS.l0 (k + 1) y0 y1 y2))
 | 0 => fun _ _ _ r h => by simp [laws_heldEntryS.l0] at h
 | k + 1 => by
  have ih0 := laws_heldEntryS.mono_l k
  ·intro y0 y1 y2
   unfold laws_heldEntryS.l0
   repeat' first
   | (with_reducible first | exact ih0 .. | exact laws_markText.mono .. | exact LeO.refl _ | exact LeO.none _ | refine LeO.ite ?_ ?_ | refine LeO.bind ?_ (fun _ => ?_))
   | exact LeO.none _ | refine LeO.ite ?_ ?_ | refine LeO.bind ?_ (fun _ => ?_)
theorem laws_heldEntryS.mono : ∀ a0 a1 k,LeO (laws_heldEntryS.f k a0 a1) (laws_heldEntryS.f (k + 1) a0 a1) := by
 intro a0 a1 k
 have ih0 := laws_heldEntryS.mono_l k
 unfold laws_heldEntryS.f
 repeat' first
 | (with_reducible first | exact ih0 .. | exact laws_markText.mono .. | exact LeO.refl _ | exact LeO.none _ | refine LeO.ite ?_ ?_ | refine LeO.bind ?_ (fun _ => ?_))
 | exact LeO.none _ | refine LeO.ite ?_ ?_ | refine LeO.bind ?_ (fun _ => ?_)
def laws_heldEntryS.T13 : Bool × List (List Nat × List Nat) := (true,[([],[]),([],[]),([0,1],[0,1]),([2],[2]),([3],[3]),([],[]),([5],[5]),([4,6],[4,6])])
def laws_heldEntryS.B13 : List Nat := [0,0,3,7,15,0,32,127]
theorem laws_heldEntryS.tab13 : rtab .any (opsOf Try.f44 13) = laws_heldEntryS.T13 := by kernel_rfl
theorem laws_heldEntryS.bits13 : waitsOk laws_heldEntryS.T13.2 laws_heldEntryS.B13 = true := by kernel_rfl
set_option maxHeartbeats 8000000 in
set_option maxRecDepth 100000 in
theorem laws_heldEntryS.calls (k : Nat) (A0 : Option Addr) (c0 : Nat) (l0 : List (S90)) (a1 : Int) (r : Int) (w : World) (hr0 : Kd.C k90 w A0 l0.length l0) (hc0 : l0.length ≤ c0) (h : laws_heldEntryS.f k l0 a1 = some r) :
  Calls Try.prog 44 #[.slice A0 l0.length c0,.int .i64 a1] w fun e w' => e = .returned (.int .i64 r) ∧ Below w.heap.size w w' := by
 have HR0 := Aside0.mk hr0
 have HC0 := Aside0.mk hc0
 clear hr0 hc0
 have HB := Aside0.mk (Below.refl w.heap.size w)
 have H : (laws_heldEntryS.l0 k l0 a1 0) = some r := h
 clear h
 have H' := Aside0.mk H
 clear H
 go_enter Try.func44,Try.ntmps44
 go_wp2
 go_loopg [1,5] k (fun kq v1 v5 w' => ∃ (x1_1 : Int) (x5_1 : Int),v1 = .int .i64 x1_1 ∧ v5 = .int .i64 x5_1 ∧ Aside0 (laws_heldEntryS.l0 kq l0 x1_1 x5_1 = some r) ∧ Aside0 (kq ≤ k) ∧ Aside0 (Below w.heap.size w w'))
 case atStart => exact ⟨(a1),(0),(by first | rfl | (simp; done) | (simp [*]; done)),(by first | rfl | (simp; done) | (simp [*]; done)),H',⟨Nat.le_refl _⟩,⟨bA⟩⟩
 case round =>
  clear H'
  try clear p2
  obtain ⟨x1_1,x5_1,rfl,rfl,HA,HK1,HB⟩ := hrel
  cases gk with
  | zero => exact absurd HA.out (by simp [laws_heldEntryS.l0])
  | succ k1 =>
   have H := HA.out
   clear HA
   simp only [laws_heldEntryS.l0] at H
   by_cases c3 : x5_1 < (l0.length : Int)
   ·rw [if_pos c3] at H
    have c3b0 : decide (x5_1 < (l0.length : Int)) = true := decide_eq_true c3
    clear c3
    by_cases c4 : 0 ≤ x5_1
    ·rw [if_pos c4] at H
     have c4b0 : decide (0 ≤ x5_1) = true := decide_eq_true c4
     clear c4
     by_cases c5 : ((rd_T90 l0 x5_1).f0) = x1_1
     ·rw [if_pos c5] at H
      have c5b0 : (((rd_T90 l0 x5_1).f0) == x1_1) = true := beq_iff_eq.mpr c5
      have c5b1 : (((rd_T90 l0 x5_1).f0) != x1_1) = false := bne_eq_false_iff_eq.mpr c5
      clear c5
      by_cases c6 : ((rd_T90 l0 x5_1).f1) = (wrap64 (x1_1 + 1))
      ·rw [if_pos c6] at H
       have c6b0 : (((rd_T90 l0 x5_1).f1) == (wrap64 (x1_1 + 1))) = true := beq_iff_eq.mpr c6
       have c6b1 : (((rd_T90 l0 x5_1).f1) != (wrap64 (x1_1 + 1))) = false := bne_eq_false_iff_eq.mpr c6
       clear c6
       by_cases c7 : ((rd_T90 l0 x5_1).f2) = (wrap64 ((wrap64 (x1_1 + 1)) + 1))
       ·rw [if_pos c7] at H
        have c7b0 : (((rd_T90 l0 x5_1).f2) == (wrap64 ((wrap64 (x1_1 + 1)) + 1))) = true := beq_iff_eq.mpr c7
        have c7b1 : (((rd_T90 l0 x5_1).f2) != (wrap64 ((wrap64 (x1_1 + 1)) + 1))) = false := bne_eq_false_iff_eq.mpr c7
        clear c7
        replace H := Option.bind_eq_some_iff.mp H
        obtain ⟨t373,A80,H⟩ := H
        try dsimp only at H
        have A8 := Aside0.mk A80
        clear A80
        by_cases c9 : ((rd_T90 l0 x5_1).f3).toList = t373.toList
        ·rw [if_pos c9] at H
         have c9b0 : (((rd_T90 l0 x5_1).f3).toList == t373.toList) = true := beq_iff_eq.mpr c9
         have c9b1 : (((rd_T90 l0 x5_1).f3).toList != t373.toList) = false := bne_eq_false_iff_eq.mpr c9
         clear c9
         have H' := Aside0.mk H
         clear H
         have p369 : 0 ≤ (x5_1 : Int) := od
         have q369 : x5_1 < (l0.length : Int) := od
         obtain ⟨ad369,e369,hx369_0,hx369_1,hx369_2,hx369_3⟩ := ea4 HB.out (at_T90 HR0.out x5_1 p369 q369)
         cases e369
         replace p369 := eq_true p369
         replace q369 := eq_true q369
         try go_wp2
         replace HB := Aside0.mk (below_drew1 HB.out)
         have p372 : 0 ≤ (x5_1 : Int) := od
         have q372 : x5_1 < (l0.length : Int) := od
         obtain ⟨ad372,e372,HW372⟩ := at_T90 HR0.out x5_1 p372 q372
         obtain rfl : ad369 = ad372 := (by injection e372)
         obtain ⟨hx372_0,hx372_1,hx372_2,hx372_3⟩ := ew4 HB.out HW372
         replace p372 := eq_true p372
         replace q372 := eq_true q372
         refine start_ (n:=8) (S:=fun w' => w'.cell? (ad369.add ((x5_1).toNat * 4)) = some (.int .i64 ((rd_T90 l0 x5_1).f0)) ∧ w'.cell? ⟨(ad369.add ((x5_1).toNat * 4)).block,(ad369.add ((x5_1).toNat * 4)).off + 1,none⟩ = some (.int .i64 ((rd_T90 l0 x5_1).f1)) ∧ w'.cell? ⟨(ad369.add ((x5_1).toNat * 4)).block,(ad369.add ((x5_1).toNat * 4)).off + 2,none⟩ = some (.int .i64 ((rd_T90 l0 x5_1).f2)) ∧ w'.cell? ⟨(ad369.add ((x5_1).toNat * 4)).block,(ad369.add ((x5_1).toNat * 4)).off + 3,none⟩ = some (.string ((rd_T90 l0 x5_1).f3))) (ds := []) (bm 8 0) (by kernel_rfl) rfl rfl (ew4 HB.out HW372) (fun hHeld => ?_); refine with_tabW laws_heldEntryS.tab13 laws_heldEntryS.bits13 (fun HT_ HW_ => ?_)
         generalize wr.drew = w10 at HB hx372_0 hx372_1 hx372_2 hx372_3 hHeld ⊢
         refine pV_ 0 39 (bm 8 1) HT_.out ?_
         refine pV_ 1 40 (bm 8 3) HT_.out ?_
         refine pV_ 2 41 (bm 8 7) HT_.out ?_
         refine pV_ 3 42 (bm 8 15) HT_.out ?_
         refine pV_ 5 44 (bm 8 47) HT_.out ?_
         refine tk 4 43 (bm 8 63) HT_.out HW_.out hHeld ?_
         refine one_ (i:=6) (N:=some 45) (bm 8 127) rfl rfl (one_of HT_.out (by kernel_rfl)) (by decide) (fun K hK => ?_)
         refine goes_ Try.func41 (by kernel_rfl) rfl #[.int .i64 (wrap64 ((wrap64 ((wrap64 (x1_1 + 1)) + 1)) + 1))] (by rfl) rfl rfl mA ?_
         with_reducible refine (laws_markText.calls k1 (wrap64 ((wrap64 ((wrap64 (x1_1 + 1)) + 1)) + 1)) t373 _ A8.out).mono ?_
         rintro e w11 ⟨rfl,hb⟩
         refine ⟨_,rfl,?_⟩
         replace HB := bsA hb
         clear hb
         refine hK.out _ _ (ew4 HB.out HW372) (fun hHeld => ?_)
         clear hK K
         refine nw 45 ?_
         refine pV_ 7 46 (bm 8 255) HT_.out ?_
         refine done_ (done_of HT_.out (by kernel_rfl)) ?_
         try go_wp2
         go_roundg k1
         case measure => have := HK1.out; omega
         case rel => exact ⟨(wrap64 ((wrap64 ((wrap64 ((wrap64 (x1_1 + 1)) + 1)) + 1)) + 1)),(wrap64 (x5_1 + 1)),(by first | rfl | (simp; done) | (simp [*]; done)),(by first | rfl | (simp; done) | (simp [*]; done)),H',⟨by have := HK1.out; omega⟩,⟨bA⟩⟩
        ·rw [if_neg c9] at H
         have c9b0 : (((rd_T90 l0 x5_1).f3).toList == t373.toList) = false := beq_eq_false_iff_ne.mpr c9
         have c9b1 : (((rd_T90 l0 x5_1).f3).toList != t373.toList) = true := bne_iff_ne.mpr c9
         obtain rfl := Option.some.inj H
         have p369 : 0 ≤ (x5_1 : Int) := od
         have q369 : x5_1 < (l0.length : Int) := od
         obtain ⟨ad369,e369,hx369_0,hx369_1,hx369_2,hx369_3⟩ := ea4 HB.out (at_T90 HR0.out x5_1 p369 q369)
         cases e369
         replace p369 := eq_true p369
         replace q369 := eq_true q369
         try go_wp2
         replace HB := Aside0.mk (below_drew1 HB.out)
         have p372 : 0 ≤ (x5_1 : Int) := od
         have q372 : x5_1 < (l0.length : Int) := od
         obtain ⟨ad372,e372,HW372⟩ := at_T90 HR0.out x5_1 p372 q372
         obtain rfl : ad369 = ad372 := (by injection e372)
         obtain ⟨hx372_0,hx372_1,hx372_2,hx372_3⟩ := ew4 HB.out HW372
         replace p372 := eq_true p372
         replace q372 := eq_true q372
         refine start_ (n:=8) (S:=fun w' => w'.cell? (ad369.add ((x5_1).toNat * 4)) = some (.int .i64 ((rd_T90 l0 x5_1).f0)) ∧ w'.cell? ⟨(ad369.add ((x5_1).toNat * 4)).block,(ad369.add ((x5_1).toNat * 4)).off + 1,none⟩ = some (.int .i64 ((rd_T90 l0 x5_1).f1)) ∧ w'.cell? ⟨(ad369.add ((x5_1).toNat * 4)).block,(ad369.add ((x5_1).toNat * 4)).off + 2,none⟩ = some (.int .i64 ((rd_T90 l0 x5_1).f2)) ∧ w'.cell? ⟨(ad369.add ((x5_1).toNat * 4)).block,(ad369.add ((x5_1).toNat * 4)).off + 3,none⟩ = some (.string ((rd_T90 l0 x5_1).f3))) (ds := []) (bm 8 0) (by kernel_rfl) rfl rfl (ew4 HB.out HW372) (fun hHeld => ?_); refine with_tabW laws_heldEntryS.tab13 laws_heldEntryS.bits13 (fun HT_ HW_ => ?_)
         generalize wr.drew = w12 at HB hx372_0 hx372_1 hx372_2 hx372_3 hHeld ⊢
         refine pV_ 0 39 (bm 8 1) HT_.out ?_
         refine pV_ 1 40 (bm 8 3) HT_.out ?_
         refine pV_ 2 41 (bm 8 7) HT_.out ?_
         refine pV_ 3 42 (bm 8 15) HT_.out ?_
         refine pV_ 5 44 (bm 8 47) HT_.out ?_
         refine tk 4 43 (bm 8 63) HT_.out HW_.out hHeld ?_
         refine one_ (i:=6) (N:=some 45) (bm 8 127) rfl rfl (one_of HT_.out (by kernel_rfl)) (by decide) (fun K hK => ?_)
         refine goes_ Try.func41 (by kernel_rfl) rfl #[.int .i64 (wrap64 ((wrap64 ((wrap64 (x1_1 + 1)) + 1)) + 1))] (by rfl) rfl rfl mA ?_
         with_reducible refine (laws_markText.calls k1 (wrap64 ((wrap64 ((wrap64 (x1_1 + 1)) + 1)) + 1)) t373 _ A8.out).mono ?_
         rintro e w13 ⟨rfl,hb⟩
         refine ⟨_,rfl,?_⟩
         replace HB := bsA hb
         clear hb
         refine hK.out _ _ (ew4 HB.out HW372) (fun hHeld => ?_)
         clear hK K
         refine nw 45 ?_
         refine pV_ 7 46 (bm 8 255) HT_.out ?_
         refine done_ (done_of HT_.out (by kernel_rfl)) ?_
         try go_wp2
         go_ret
         exact ⟨by first | rfl | (simp only [i64_w,i32_w] <;> rfl) | (simp [errW_none,errW_some] <;> rfl) | (simp [*,errW_none,errW_some] <;> rfl),bA⟩
       ·rw [if_neg c7] at H
        have c7b0 : (((rd_T90 l0 x5_1).f2) == (wrap64 ((wrap64 (x1_1 + 1)) + 1))) = false := beq_eq_false_iff_ne.mpr c7
        have c7b1 : (((rd_T90 l0 x5_1).f2) != (wrap64 ((wrap64 (x1_1 + 1)) + 1))) = true := bne_iff_ne.mpr c7
        obtain rfl := Option.some.inj H
        have p369 : 0 ≤ (x5_1 : Int) := od
        have q369 : x5_1 < (l0.length : Int) := od
        obtain ⟨ad369,e369,hx369_0,hx369_1,hx369_2,hx369_3⟩ := ea4 HB.out (at_T90 HR0.out x5_1 p369 q369)
        cases e369
        replace p369 := eq_true p369
        replace q369 := eq_true q369
        go_wp2
        go_ret
        exact ⟨by first | rfl | (simp only [i64_w,i32_w] <;> rfl) | (simp [errW_none,errW_some] <;> rfl) | (simp [*,errW_none,errW_some] <;> rfl),bA⟩
      ·rw [if_neg c6] at H
       have c6b0 : (((rd_T90 l0 x5_1).f1) == (wrap64 (x1_1 + 1))) = false := beq_eq_false_iff_ne.mpr c6
       have c6b1 : (((rd_T90 l0 x5_1).f1) != (wrap64 (x1_1 + 1))) = true := bne_iff_ne.mpr c6
       obtain rfl := Option.some.inj H
       have p369 : 0 ≤ (x5_1 : Int) := od
       have q369 : x5_1 < (l0.length : Int) := od
       obtain ⟨ad369,e369,hx369_0,hx369_1,hx369_2,hx369_3⟩ := ea4 HB.out (at_T90 HR0.out x5_1 p369 q369)
       cases e369
       replace p369 := eq_true p369
       replace q369 := eq_true q369
       go_wp2
       go_ret
       exact ⟨by first | rfl | (simp only [i64_w,i32_w] <;> rfl) | (simp [errW_none,errW_some] <;> rfl) | (simp [*,errW_none,errW_some] <;> rfl),bA⟩
     ·rw [if_neg c5] at H
      have c5b0 : (((rd_T90 l0 x5_1).f0) == x1_1) = false := beq_eq_false_iff_ne.mpr c5
      have c5b1 : (((rd_T90 l0 x5_1).f0) != x1_1) = true := bne_iff_ne.mpr c5
      obtain rfl := Option.some.inj H
      have p369 : 0 ≤ (x5_1 : Int) := od
      have q369 : x5_1 < (l0.length : Int) := od
      obtain ⟨ad369,e369,hx369_0,hx369_1,hx369_2,hx369_3⟩ := ea4 HB.out (at_T90 HR0.out x5_1 p369 q369)
      cases e369
      replace p369 := eq_true p369
      replace q369 := eq_true q369
      go_wp2
      go_ret
      exact ⟨by first | rfl | (simp only [i64_w,i32_w] <;> rfl) | (simp [errW_none,errW_some] <;> rfl) | (simp [*,errW_none,errW_some] <;> rfl),bA⟩
    ·rw [if_neg c4] at H
     exact absurd H (by simp)
   ·rw [if_neg c3] at H
    have c3b0 : decide (x5_1 < (l0.length : Int)) = false := decide_eq_false c3
    clear c3
    obtain rfl := Option.some.inj H
    go_wp2
    go_ret
    exact ⟨by first | rfl | (simp only [i64_w,i32_w] <;> rfl) | (simp [errW_none,errW_some] <;> rfl) | (simp [*,errW_none,errW_some] <;> rfl),bA⟩

end Go.Proofs.Ytmfichcgmofpkaa.XFnExactNewFleet
