-- Printed by this session's own program wip/tools/xprint.py, which widens the kit's print. Not trusted: Lean checks it.
import Derived.Test.YtfondhlknkhmmaaGreatDoorXFnExactOrphansOfx0
import Derived.Test.YtfondhlknkhmmaaGreatDoorXFnExactOrphansOfx11
namespace Go.Proofs.YtfondhlknkhmmaaGreatDoor.XFnExactOrphansOf
open List (setIfInBounds_toArray set_cons_zero set_cons_succ)
open Go.RowKit Go.Proofs.YtfondhlknkhmmaaGreatDoorW.PrintWords Go.Proofs.YtfondhlknkhmmaaGreatDoorW.PrintLast Go.Proofs.YtfondhlknkhmmaaGreatDoorW.PrintMore
attribute [local go_sem] max2_int min2_int max_two min_two max_three min_three max_four min_four   -- for this text's walks alone
set_option linter.unusedVariables false
set_option linter.unusedSimpArgs false

/-! ### laws_eqEntryS: function 26 -/
def laws_eqEntryS.l0 : Nat → List (S64) → List (S64) → Int → Option (Bool)
 | 0,_,_,_ => none
 | k + 1,x0,x1,x5 => if x5 < (x0.length : Int) then (if 0 ≤ x5 then (if x5 < (x1.length : Int) then ((laws_eqEntry.f ((rd_T64 x0 x5).f0) ((rd_T64 x0 x5).f1) ((rd_T64 x0 x5).f2) ((rd_T64 x0 x5).f3) ((rd_T64 x1 x5).f0) ((rd_T64 x1 x5).f1) ((rd_T64 x1 x5).f2) ((rd_T64 x1 x5).f3)).bind fun t360 => (if t360 = true then (laws_eqEntryS.l0 k x0 x1 (wrap64 (x5 + 1))) else (some false))) else (none)) else (none)) else (some true)
def laws_eqEntryS.f (k : Nat) (l0 : List (S64)) (l1 : List (S64)) : Option (Bool) := if (l0.length : Int) = (l1.length : Int) then (laws_eqEntryS.l0 k l0 l1 0) else (some false)
theorem laws_eqEntryS.mono_l : ∀ k,(∀ y0 y1 y2,LeO (laws_eqEntryS.l0 k y0 y1 y2) (laws_eqEntryS.l0 (k + 1) y0 y1 y2))
 | 0 => fun _ _ _ r h => by simp [laws_eqEntryS.l0] at h
 | k + 1 => by
  have ih0 := laws_eqEntryS.mono_l k
  ·intro y0 y1 y2
   unfold laws_eqEntryS.l0
   repeat' first
   | (with_reducible first | exact ih0 .. | exact LeO.refl _ | exact LeO.none _ | refine LeO.ite ?_ ?_ | refine LeO.bind ?_ (fun _ => ?_))
   | exact LeO.none _ | refine LeO.ite ?_ ?_ | refine LeO.bind ?_ (fun _ => ?_)
theorem laws_eqEntryS.mono : ∀ a0 a1 k,LeO (laws_eqEntryS.f k a0 a1) (laws_eqEntryS.f (k + 1) a0 a1) := by
 intro a0 a1 k
 have ih0 := laws_eqEntryS.mono_l k
 unfold laws_eqEntryS.f
 repeat' first
 | (with_reducible first | exact ih0 .. | exact LeO.refl _ | exact LeO.none _ | refine LeO.ite ?_ ?_ | refine LeO.bind ?_ (fun _ => ?_))
 | exact LeO.none _ | refine LeO.ite ?_ ?_ | refine LeO.bind ?_ (fun _ => ?_)
def laws_eqEntryS.T6 : Bool × List (List Nat × List Nat) := (true,[([],[]),([],[]),([0,1],[0,1]),([2],[2]),([],[]),([],[]),([4,5],[4,5]),([6],[6]),([3,7],[3,7]),([8],[8])])
def laws_eqEntryS.B6 : List Nat := [0,0,3,7,0,0,48,112,255,511]
theorem laws_eqEntryS.tab6 : rtab .any (opsOf Tryz.f26 6) = laws_eqEntryS.T6 := by kernel_rfl
theorem laws_eqEntryS.bits6 : waitsOk laws_eqEntryS.T6.2 laws_eqEntryS.B6 = true := by kernel_rfl
set_option maxHeartbeats 8000000 in
set_option maxRecDepth 100000 in
theorem laws_eqEntryS.calls (k : Nat) (A0 : Option Addr) (c0 : Nat) (l0 : List (S64)) (A1 : Option Addr) (c1 : Nat) (l1 : List (S64)) (r : Bool) (w : World) (hr0 : Kd.C k64 w A0 l0.length l0) (hc0 : l0.length ≤ c0) (hr1 : Kd.C k64 w A1 l1.length l1) (hc1 : l1.length ≤ c1) (h : laws_eqEntryS.f k l0 l1 = some r) :
  Calls Tryz.prog 26 #[.slice A0 l0.length c0,.slice A1 l1.length c1] w fun e w' => e = .returned (.bool r) ∧ Below w.heap.size w w' := by
 have hu64 := Tryz.underlying64
 have HR0 := Aside0.mk hr0
 have HC0 := Aside0.mk hc0
 clear hr0 hc0
 have HR1 := Aside0.mk hr1
 have HC1 := Aside0.mk hc1
 clear hr1 hc1
 have HB := Aside0.mk (Below.refl w.heap.size w)
 have H : (if (l0.length : Int) = (l1.length : Int) then (laws_eqEntryS.l0 k l0 l1 0) else (some false)) = some r := h
 clear h
 by_cases c3 : (l0.length : Int) = (l1.length : Int)
 ·rw [if_pos c3] at H
  have c3b0 : ((l0.length : Int) == (l1.length : Int)) = true := beq_iff_eq.mpr c3
  have c3b1 : ((l0.length : Int) != (l1.length : Int)) = false := bne_eq_false_iff_eq.mpr c3
  have c3b2 : (l0.length == l1.length) = true := by first | simpa using c3 | (simp at c3 ⊢; omega)
  clear c3
  have H' := Aside0.mk H
  clear H
  go_enter Tryz.func26,Tryz.ntmps26
  go_wp2
  go_loopg [5] k (fun kq v5 w' => ∃ (x5_1 : Int),v5 = .int .i64 x5_1 ∧ Aside0 (laws_eqEntryS.l0 kq l0 l1 x5_1 = some r) ∧ Aside0 (kq ≤ k) ∧ Aside0 (Below w.heap.size w w'))
  case atStart => exact ⟨(0),(by first | rfl | (simp; done) | (simp [*]; done)),H',⟨Nat.le_refl _⟩,⟨bA⟩⟩
  case round =>
   clear H'
   try clear c1
   try clear c2
   try clear p2
   try clear c3
   try clear c3b0
   try clear c3b1
   try clear c3b2
   obtain ⟨x5_1,rfl,HA,HK1,HB⟩ := hrel
   cases gk with
   | zero => exact absurd HA.out (by simp [laws_eqEntryS.l0])
   | succ k1 =>
    have H := HA.out
    clear HA
    simp only [laws_eqEntryS.l0] at H
    by_cases c4 : x5_1 < (l0.length : Int)
    ·rw [if_pos c4] at H
     have c4b0 : decide (x5_1 < (l0.length : Int)) = true := decide_eq_true c4
     clear c4
     by_cases c5 : 0 ≤ x5_1
     ·rw [if_pos c5] at H
      have c5b0 : decide (0 ≤ x5_1) = true := decide_eq_true c5
      clear c5
      by_cases c6 : x5_1 < (l1.length : Int)
      ·rw [if_pos c6] at H
       have c6b0 : decide (x5_1 < (l1.length : Int)) = true := decide_eq_true c6
       clear c6
       replace H := Option.bind_eq_some_iff.mp H
       obtain ⟨t360,A70,H⟩ := H
       try dsimp only at H
       have A7 := Aside0.mk A70
       clear A70
       by_cases c8 : t360 = true
       ·subst c8
        rw [if_pos rfl] at H
        have H' := Aside0.mk H
        clear H
        try go_wp2
        have n0_ := Aside0.mk (below_drew1 HB.out)
        clear HB
        have HB := n0_
        clear n0_
        have p358 : 0 ≤ (x5_1 : Int) := od
        have q358 : x5_1 < (l0.length : Int) := od
        obtain ⟨ad358,e358,hx358_0,hx358_1,hx358_2,hx358_3⟩ := at_T64 HR0.out x5_1 p358 q358
        have hw358_3 := hx358_3
        have hw358_2 := hx358_2
        have hw358_1 := hx358_1
        have hw358_0 := hx358_0
        cases e358
        replace hx358_0 := cb HB.out hx358_0
        replace hx358_1 := cb HB.out hx358_1
        replace hx358_2 := cb HB.out hx358_2
        replace hx358_3 := cb HB.out hx358_3
        replace p358 := eq_true p358
        replace q358 := eq_true q358
        have p359 : 0 ≤ (x5_1 : Int) := od
        have q359 : x5_1 < (l1.length : Int) := od
        obtain ⟨ad359,e359,hx359_0,hx359_1,hx359_2,hx359_3⟩ := at_T64 HR1.out x5_1 p359 q359
        have hw359_3 := hx359_3
        have hw359_2 := hx359_2
        have hw359_1 := hx359_1
        have hw359_0 := hx359_0
        cases e359
        replace hx359_0 := cb HB.out hx359_0
        replace hx359_1 := cb HB.out hx359_1
        replace hx359_2 := cb HB.out hx359_2
        replace hx359_3 := cb HB.out hx359_3
        replace p359 := eq_true p359
        replace q359 := eq_true q359
        refine start_ (n:=10) (S:=fun w' => w'.cell? (ad358.add ((x5_1).toNat * 4)) = some (.int .i64 ((rd_T64 l0 x5_1).f0)) ∧ w'.cell? ⟨(ad358.add ((x5_1).toNat * 4)).block,(ad358.add ((x5_1).toNat * 4)).off + 1,none⟩ = some (.int .i64 ((rd_T64 l0 x5_1).f1)) ∧ w'.cell? ⟨(ad358.add ((x5_1).toNat * 4)).block,(ad358.add ((x5_1).toNat * 4)).off + 2,none⟩ = some (.int .i64 ((rd_T64 l0 x5_1).f2)) ∧ w'.cell? ⟨(ad358.add ((x5_1).toNat * 4)).block,(ad358.add ((x5_1).toNat * 4)).off + 3,none⟩ = some (.string ((rd_T64 l0 x5_1).f3)) ∧ w'.cell? (ad359.add ((x5_1).toNat * 4)) = some (.int .i64 ((rd_T64 l1 x5_1).f0)) ∧ w'.cell? ⟨(ad359.add ((x5_1).toNat * 4)).block,(ad359.add ((x5_1).toNat * 4)).off + 1,none⟩ = some (.int .i64 ((rd_T64 l1 x5_1).f1)) ∧ w'.cell? ⟨(ad359.add ((x5_1).toNat * 4)).block,(ad359.add ((x5_1).toNat * 4)).off + 2,none⟩ = some (.int .i64 ((rd_T64 l1 x5_1).f2)) ∧ w'.cell? ⟨(ad359.add ((x5_1).toNat * 4)).block,(ad359.add ((x5_1).toNat * 4)).off + 3,none⟩ = some (.string ((rd_T64 l1 x5_1).f3))) (ds := []) (bm 10 0) (by kernel_rfl) rfl rfl ⟨(cb HB.out hw358_0),(cb HB.out hw358_1),(cb HB.out hw358_2),(cb HB.out hw358_3),(cb HB.out hw359_0),(cb HB.out hw359_1),(cb HB.out hw359_2),(cb HB.out hw359_3)⟩ (fun hHeld => ?_); refine with_tabW laws_eqEntryS.tab6 laws_eqEntryS.bits6 (fun HT_ HW_ => ?_)
        generalize wr.drew = w9 at HB hx358_0 hx358_1 hx358_2 hx358_3 hx359_0 hx359_1 hx359_2 hx359_3 hHeld ⊢
        refine pV_ 0 17 (bm 10 1) HT_.out ?_
        refine pV_ 1 18 (bm 10 3) HT_.out ?_
        refine pV_ 2 19 (bm 10 7) HT_.out ?_
        refine pV_ 4 21 (bm 10 23) HT_.out ?_
        refine pV_ 5 22 (bm 10 55) HT_.out ?_
        refine pV_ 6 23 (bm 10 119) HT_.out ?_
        refine take_ (i:=3) (N:=some 20) (v:=?_) (a':=?_) (bm 10 127) rfl rfl (take_ofW HT_.out HW_.out (by kernel_rfl)) (fun _ _ _ h => h) (Or.inl ⟨by rfl,?_⟩) hHeld ?_ ?_
        rotate_left
        ·rintro w' ⟨s0,s1,s2,s3,s4,s5,s6,s7⟩
         go_simp
         with_reducible rfl
        rotate_left
        ·simp only [Act.put,setIfInBounds_toArray,set_cons_zero,set_cons_succ,i64_w,i32_w]
         rfl
        refine take_ (i:=7) (N:=some 24) (v:=?_) (a':=?_) (bm 10 255) rfl rfl (take_ofW HT_.out HW_.out (by kernel_rfl)) (fun _ _ _ h => h) (Or.inl ⟨by rfl,?_⟩) hHeld ?_ ?_
        rotate_left
        ·rintro w' ⟨s0,s1,s2,s3,s4,s5,s6,s7⟩
         go_simp
         with_reducible rfl
        rotate_left
        ·simp only [Act.put,setIfInBounds_toArray,set_cons_zero,set_cons_succ,i64_w,i32_w]
         rfl
        refine one_ (i:=8) (N:=some 25) (bm 10 511) rfl rfl (one_of HT_.out (by kernel_rfl)) (by decide) (fun K hK => ?_)
        refine goes_ Tryz.func48 (by kernel_rfl) rfl #[.agg #[.int .i64 ((rd_T64 l0 x5_1).f0),.int .i64 ((rd_T64 l0 x5_1).f1),.int .i64 ((rd_T64 l0 x5_1).f2),.string ((rd_T64 l0 x5_1).f3)],.agg #[.int .i64 ((rd_T64 l1 x5_1).f0),.int .i64 ((rd_T64 l1 x5_1).f1),.int .i64 ((rd_T64 l1 x5_1).f2),.string ((rd_T64 l1 x5_1).f3)]] (by rfl) rfl rfl mA ?_
        with_reducible refine (laws_eqEntry.calls ((rd_T64 l0 x5_1).f0) ((rd_T64 l0 x5_1).f1) ((rd_T64 l0 x5_1).f2) ((rd_T64 l0 x5_1).f3) ((rd_T64 l1 x5_1).f0) ((rd_T64 l1 x5_1).f1) ((rd_T64 l1 x5_1).f2) ((rd_T64 l1 x5_1).f3) true _ A7.out).mono ?_
        rintro e w10 ⟨rfl,hb⟩
        refine ⟨_,rfl,?_⟩
        have n0_ := Aside0.mk (below_step bA hb)
        clear HB
        have HB := n0_
        clear n0_
        (try clear hb)
        (try clear hb2)
        (try clear hk)
        (try clear hi)
        refine hK.out _ _ ⟨(cb HB.out hw358_0),(cb HB.out hw358_1),(cb HB.out hw358_2),(cb HB.out hw358_3),(cb HB.out hw359_0),(cb HB.out hw359_1),(cb HB.out hw359_2),(cb HB.out hw359_3)⟩ (fun hHeld => ?_)
        clear hK K
        refine norm_ (a':=?_) ?_ ?_
        rotate_left
        ·show Act.put _ (some 25) _ = _
         simp only [Act.put,setIfInBounds_toArray,set_cons_zero,set_cons_succ,i64_w,i32_w]
         rfl
        refine pV_ 9 26 (bm 10 1023) HT_.out ?_
        refine done_ (done_of HT_.out (by kernel_rfl)) ?_
        try go_wp2
        go_roundg k1
        case measure => have := HK1.out; omega
        case rel => exact ⟨(wrap64 (x5_1 + 1)),(by first | rfl | (simp; done) | (simp [*]; done)),H',⟨by have := HK1.out; omega⟩,⟨bA⟩⟩
       ·replace c8 := Bool.eq_false_iff.mpr c8
        subst c8
        rw [if_neg (show ¬ (false = true) by decide)] at H
        obtain rfl := Option.some.inj H
        try go_wp2
        have n0_ := Aside0.mk (below_drew1 HB.out)
        clear HB
        have HB := n0_
        clear n0_
        have p358 : 0 ≤ (x5_1 : Int) := od
        have q358 : x5_1 < (l0.length : Int) := od
        obtain ⟨ad358,e358,hx358_0,hx358_1,hx358_2,hx358_3⟩ := at_T64 HR0.out x5_1 p358 q358
        have hw358_3 := hx358_3
        have hw358_2 := hx358_2
        have hw358_1 := hx358_1
        have hw358_0 := hx358_0
        cases e358
        replace hx358_0 := cb HB.out hx358_0
        replace hx358_1 := cb HB.out hx358_1
        replace hx358_2 := cb HB.out hx358_2
        replace hx358_3 := cb HB.out hx358_3
        replace p358 := eq_true p358
        replace q358 := eq_true q358
        have p359 : 0 ≤ (x5_1 : Int) := od
        have q359 : x5_1 < (l1.length : Int) := od
        obtain ⟨ad359,e359,hx359_0,hx359_1,hx359_2,hx359_3⟩ := at_T64 HR1.out x5_1 p359 q359
        have hw359_3 := hx359_3
        have hw359_2 := hx359_2
        have hw359_1 := hx359_1
        have hw359_0 := hx359_0
        cases e359
        replace hx359_0 := cb HB.out hx359_0
        replace hx359_1 := cb HB.out hx359_1
        replace hx359_2 := cb HB.out hx359_2
        replace hx359_3 := cb HB.out hx359_3
        replace p359 := eq_true p359
        replace q359 := eq_true q359
        refine start_ (n:=10) (S:=fun w' => w'.cell? (ad358.add ((x5_1).toNat * 4)) = some (.int .i64 ((rd_T64 l0 x5_1).f0)) ∧ w'.cell? ⟨(ad358.add ((x5_1).toNat * 4)).block,(ad358.add ((x5_1).toNat * 4)).off + 1,none⟩ = some (.int .i64 ((rd_T64 l0 x5_1).f1)) ∧ w'.cell? ⟨(ad358.add ((x5_1).toNat * 4)).block,(ad358.add ((x5_1).toNat * 4)).off + 2,none⟩ = some (.int .i64 ((rd_T64 l0 x5_1).f2)) ∧ w'.cell? ⟨(ad358.add ((x5_1).toNat * 4)).block,(ad358.add ((x5_1).toNat * 4)).off + 3,none⟩ = some (.string ((rd_T64 l0 x5_1).f3)) ∧ w'.cell? (ad359.add ((x5_1).toNat * 4)) = some (.int .i64 ((rd_T64 l1 x5_1).f0)) ∧ w'.cell? ⟨(ad359.add ((x5_1).toNat * 4)).block,(ad359.add ((x5_1).toNat * 4)).off + 1,none⟩ = some (.int .i64 ((rd_T64 l1 x5_1).f1)) ∧ w'.cell? ⟨(ad359.add ((x5_1).toNat * 4)).block,(ad359.add ((x5_1).toNat * 4)).off + 2,none⟩ = some (.int .i64 ((rd_T64 l1 x5_1).f2)) ∧ w'.cell? ⟨(ad359.add ((x5_1).toNat * 4)).block,(ad359.add ((x5_1).toNat * 4)).off + 3,none⟩ = some (.string ((rd_T64 l1 x5_1).f3))) (ds := []) (bm 10 0) (by kernel_rfl) rfl rfl ⟨(cb HB.out hw358_0),(cb HB.out hw358_1),(cb HB.out hw358_2),(cb HB.out hw358_3),(cb HB.out hw359_0),(cb HB.out hw359_1),(cb HB.out hw359_2),(cb HB.out hw359_3)⟩ (fun hHeld => ?_); refine with_tabW laws_eqEntryS.tab6 laws_eqEntryS.bits6 (fun HT_ HW_ => ?_)
        generalize wr.drew = w11 at HB hx358_0 hx358_1 hx358_2 hx358_3 hx359_0 hx359_1 hx359_2 hx359_3 hHeld ⊢
        refine pV_ 0 17 (bm 10 1) HT_.out ?_
        refine pV_ 1 18 (bm 10 3) HT_.out ?_
        refine pV_ 2 19 (bm 10 7) HT_.out ?_
        refine pV_ 4 21 (bm 10 23) HT_.out ?_
        refine pV_ 5 22 (bm 10 55) HT_.out ?_
        refine pV_ 6 23 (bm 10 119) HT_.out ?_
        refine take_ (i:=3) (N:=some 20) (v:=?_) (a':=?_) (bm 10 127) rfl rfl (take_ofW HT_.out HW_.out (by kernel_rfl)) (fun _ _ _ h => h) (Or.inl ⟨by rfl,?_⟩) hHeld ?_ ?_
        rotate_left
        ·rintro w' ⟨s0,s1,s2,s3,s4,s5,s6,s7⟩
         go_simp
         with_reducible rfl
        rotate_left
        ·simp only [Act.put,setIfInBounds_toArray,set_cons_zero,set_cons_succ,i64_w,i32_w]
         rfl
        refine take_ (i:=7) (N:=some 24) (v:=?_) (a':=?_) (bm 10 255) rfl rfl (take_ofW HT_.out HW_.out (by kernel_rfl)) (fun _ _ _ h => h) (Or.inl ⟨by rfl,?_⟩) hHeld ?_ ?_
        rotate_left
        ·rintro w' ⟨s0,s1,s2,s3,s4,s5,s6,s7⟩
         go_simp
         with_reducible rfl
        rotate_left
        ·simp only [Act.put,setIfInBounds_toArray,set_cons_zero,set_cons_succ,i64_w,i32_w]
         rfl
        refine one_ (i:=8) (N:=some 25) (bm 10 511) rfl rfl (one_of HT_.out (by kernel_rfl)) (by decide) (fun K hK => ?_)
        refine goes_ Tryz.func48 (by kernel_rfl) rfl #[.agg #[.int .i64 ((rd_T64 l0 x5_1).f0),.int .i64 ((rd_T64 l0 x5_1).f1),.int .i64 ((rd_T64 l0 x5_1).f2),.string ((rd_T64 l0 x5_1).f3)],.agg #[.int .i64 ((rd_T64 l1 x5_1).f0),.int .i64 ((rd_T64 l1 x5_1).f1),.int .i64 ((rd_T64 l1 x5_1).f2),.string ((rd_T64 l1 x5_1).f3)]] (by rfl) rfl rfl mA ?_
        with_reducible refine (laws_eqEntry.calls ((rd_T64 l0 x5_1).f0) ((rd_T64 l0 x5_1).f1) ((rd_T64 l0 x5_1).f2) ((rd_T64 l0 x5_1).f3) ((rd_T64 l1 x5_1).f0) ((rd_T64 l1 x5_1).f1) ((rd_T64 l1 x5_1).f2) ((rd_T64 l1 x5_1).f3) false _ A7.out).mono ?_
        rintro e w12 ⟨rfl,hb⟩
        refine ⟨_,rfl,?_⟩
        have n0_ := Aside0.mk (below_step bA hb)
        clear HB
        have HB := n0_
        clear n0_
        (try clear hb)
        (try clear hb2)
        (try clear hk)
        (try clear hi)
        refine hK.out _ _ ⟨(cb HB.out hw358_0),(cb HB.out hw358_1),(cb HB.out hw358_2),(cb HB.out hw358_3),(cb HB.out hw359_0),(cb HB.out hw359_1),(cb HB.out hw359_2),(cb HB.out hw359_3)⟩ (fun hHeld => ?_)
        clear hK K
        refine norm_ (a':=?_) ?_ ?_
        rotate_left
        ·show Act.put _ (some 25) _ = _
         simp only [Act.put,setIfInBounds_toArray,set_cons_zero,set_cons_succ,i64_w,i32_w]
         rfl
        refine pV_ 9 26 (bm 10 1023) HT_.out ?_
        refine done_ (done_of HT_.out (by kernel_rfl)) ?_
        try go_wp2
        go_ret
        exact ⟨by first | rfl | (simp only [i64_w,i32_w] <;> rfl) | (simp [errW_none,errW_some] <;> rfl) | (simp [*,errW_none,errW_some] <;> rfl),bA⟩
      ·rw [if_neg c6] at H
       exact absurd H (by simp)
     ·rw [if_neg c5] at H
      exact absurd H (by simp)
    ·rw [if_neg c4] at H
     have c4b0 : decide (x5_1 < (l0.length : Int)) = false := decide_eq_false c4
     clear c4
     obtain rfl := Option.some.inj H
     go_wp2
     go_ret
     exact ⟨by first | rfl | (simp only [i64_w,i32_w] <;> rfl) | (simp [errW_none,errW_some] <;> rfl) | (simp [*,errW_none,errW_some] <;> rfl),bA⟩
 ·rw [if_neg c3] at H
  have c3b0 : ((l0.length : Int) == (l1.length : Int)) = false := beq_eq_false_iff_ne.mpr c3
  have c3b1 : ((l0.length : Int) != (l1.length : Int)) = true := bne_iff_ne.mpr c3
  have c3b2 : (l0.length == l1.length) = false := by first | simpa using c3 | (simp at c3 ⊢; omega)
  obtain rfl := Option.some.inj H
  go_enter Tryz.func26,Tryz.ntmps26
  go_wp2
  go_ret
  exact ⟨by first | rfl | (simp only [i64_w,i32_w] <;> rfl) | (simp [errW_none,errW_some] <;> rfl) | (simp [*,errW_none,errW_some] <;> rfl),bA⟩

/-! ### laws_eqTomb: function 49 -/
def laws_eqTomb.f (a0_0 : Int) (a0_1 : ByteArray) (a1_0 : Int) (a1_1 : ByteArray) : Option (Bool) := if a0_0 = a1_0 then (if a0_1.toList = a1_1.toList then (some true) else (some false)) else (some false)
set_option maxHeartbeats 8000000 in
set_option maxRecDepth 100000 in
theorem laws_eqTomb.calls (a0_0 : Int) (a0_1 : ByteArray) (a1_0 : Int) (a1_1 : ByteArray) (r : Bool) (w : World) (h : laws_eqTomb.f a0_0 a0_1 a1_0 a1_1 = some r) :
  Calls Tryz.prog 49 #[.agg #[.int .i64 a0_0,.string a0_1],.agg #[.int .i64 a1_0,.string a1_1]] w fun e w' => e = .returned (.bool r) ∧ Below w.heap.size w w' := by
 have hu71 := Tryz.underlying71
 have HB := Aside0.mk (Below.refl w.heap.size w)
 have H : (if a0_0 = a1_0 then (if a0_1.toList = a1_1.toList then (some true) else (some false)) else (some false)) = some r := h
 clear h
 by_cases c3 : a0_0 = a1_0
 ·rw [if_pos c3] at H
  have c3b0 : (a0_0 == a1_0) = true := beq_iff_eq.mpr c3
  have c3b1 : (a0_0 != a1_0) = false := bne_eq_false_iff_eq.mpr c3
  clear c3
  by_cases c4 : a0_1.toList = a1_1.toList
  ·rw [if_pos c4] at H
   have c4b0 : (a0_1.toList == a1_1.toList) = true := beq_iff_eq.mpr c4
   have c4b1 : (a0_1.toList != a1_1.toList) = false := bne_eq_false_iff_eq.mpr c4
   clear c4
   obtain rfl := Option.some.inj H
   go_enter Tryz.func49,Tryz.ntmps49
   go_wp2
   go_ret
   exact ⟨by first | rfl | (simp [errW_none,errW_some] <;> rfl) | (simp [*,errW_none,errW_some] <;> rfl),bA⟩
  ·rw [if_neg c4] at H
   have c4b0 : (a0_1.toList == a1_1.toList) = false := beq_eq_false_iff_ne.mpr c4
   have c4b1 : (a0_1.toList != a1_1.toList) = true := bne_iff_ne.mpr c4
   obtain rfl := Option.some.inj H
   go_enter Tryz.func49,Tryz.ntmps49
   go_wp2
   go_ret
   exact ⟨by first | rfl | (simp [errW_none,errW_some] <;> rfl) | (simp [*,errW_none,errW_some] <;> rfl),bA⟩
 ·rw [if_neg c3] at H
  have c3b0 : (a0_0 == a1_0) = false := beq_eq_false_iff_ne.mpr c3
  have c3b1 : (a0_0 != a1_0) = true := bne_iff_ne.mpr c3
  obtain rfl := Option.some.inj H
  go_enter Tryz.func49,Tryz.ntmps49
  go_wp2
  go_ret
  exact ⟨by first | rfl | (simp [errW_none,errW_some] <;> rfl) | (simp [*,errW_none,errW_some] <;> rfl),bA⟩

/-! ### laws_eqTombS: function 27 -/
def laws_eqTombS.l0 : Nat → List (S71) → List (S71) → Int → Option (Bool)
 | 0,_,_,_ => none
 | k + 1,x0,x1,x5 => if x5 < (x0.length : Int) then (if 0 ≤ x5 then (if x5 < (x1.length : Int) then ((laws_eqTomb.f ((rd_T71 x0 x5).f0) ((rd_T71 x0 x5).f1) ((rd_T71 x1 x5).f0) ((rd_T71 x1 x5).f1)).bind fun t365 => (if t365 = true then (laws_eqTombS.l0 k x0 x1 (wrap64 (x5 + 1))) else (some false))) else (none)) else (none)) else (some true)
def laws_eqTombS.f (k : Nat) (l0 : List (S71)) (l1 : List (S71)) : Option (Bool) := if (l0.length : Int) = (l1.length : Int) then (laws_eqTombS.l0 k l0 l1 0) else (some false)
theorem laws_eqTombS.mono_l : ∀ k,(∀ y0 y1 y2,LeO (laws_eqTombS.l0 k y0 y1 y2) (laws_eqTombS.l0 (k + 1) y0 y1 y2))
 | 0 => fun _ _ _ r h => by simp [laws_eqTombS.l0] at h
 | k + 1 => by
  have ih0 := laws_eqTombS.mono_l k
  ·intro y0 y1 y2
   unfold laws_eqTombS.l0
   repeat' first
   | (with_reducible first | exact ih0 .. | exact LeO.refl _ | exact LeO.none _ | refine LeO.ite ?_ ?_ | refine LeO.bind ?_ (fun _ => ?_))
   | exact LeO.none _ | refine LeO.ite ?_ ?_ | refine LeO.bind ?_ (fun _ => ?_)
theorem laws_eqTombS.mono : ∀ a0 a1 k,LeO (laws_eqTombS.f k a0 a1) (laws_eqTombS.f (k + 1) a0 a1) := by
 intro a0 a1 k
 have ih0 := laws_eqTombS.mono_l k
 unfold laws_eqTombS.f
 repeat' first
 | (with_reducible first | exact ih0 .. | exact LeO.refl _ | exact LeO.none _ | refine LeO.ite ?_ ?_ | refine LeO.bind ?_ (fun _ => ?_))
 | exact LeO.none _ | refine LeO.ite ?_ ?_ | refine LeO.bind ?_ (fun _ => ?_)
def laws_eqTombS.T6 : Bool × List (List Nat × List Nat) := (true,[([],[]),([],[]),([0,1],[0,1]),([2],[2]),([],[]),([],[]),([4,5],[4,5]),([6],[6]),([3,7],[3,7]),([8],[8])])
def laws_eqTombS.B6 : List Nat := [0,0,3,7,0,0,48,112,255,511]
theorem laws_eqTombS.tab6 : rtab .any (opsOf Tryz.f27 6) = laws_eqTombS.T6 := by kernel_rfl
theorem laws_eqTombS.bits6 : waitsOk laws_eqTombS.T6.2 laws_eqTombS.B6 = true := by kernel_rfl
set_option maxHeartbeats 8000000 in
set_option maxRecDepth 100000 in
theorem laws_eqTombS.calls (k : Nat) (A0 : Option Addr) (c0 : Nat) (l0 : List (S71)) (A1 : Option Addr) (c1 : Nat) (l1 : List (S71)) (r : Bool) (w : World) (hr0 : Kd.C k71 w A0 l0.length l0) (hc0 : l0.length ≤ c0) (hr1 : Kd.C k71 w A1 l1.length l1) (hc1 : l1.length ≤ c1) (h : laws_eqTombS.f k l0 l1 = some r) :
  Calls Tryz.prog 27 #[.slice A0 l0.length c0,.slice A1 l1.length c1] w fun e w' => e = .returned (.bool r) ∧ Below w.heap.size w w' := by
 have hu71 := Tryz.underlying71
 have HR0 := Aside0.mk hr0
 have HC0 := Aside0.mk hc0
 clear hr0 hc0
 have HR1 := Aside0.mk hr1
 have HC1 := Aside0.mk hc1
 clear hr1 hc1
 have HB := Aside0.mk (Below.refl w.heap.size w)
 have H : (if (l0.length : Int) = (l1.length : Int) then (laws_eqTombS.l0 k l0 l1 0) else (some false)) = some r := h
 clear h
 by_cases c3 : (l0.length : Int) = (l1.length : Int)
 ·rw [if_pos c3] at H
  have c3b0 : ((l0.length : Int) == (l1.length : Int)) = true := beq_iff_eq.mpr c3
  have c3b1 : ((l0.length : Int) != (l1.length : Int)) = false := bne_eq_false_iff_eq.mpr c3
  have c3b2 : (l0.length == l1.length) = true := by first | simpa using c3 | (simp at c3 ⊢; omega)
  clear c3
  have H' := Aside0.mk H
  clear H
  go_enter Tryz.func27,Tryz.ntmps27
  go_wp2
  go_loopg [5] k (fun kq v5 w' => ∃ (x5_1 : Int),v5 = .int .i64 x5_1 ∧ Aside0 (laws_eqTombS.l0 kq l0 l1 x5_1 = some r) ∧ Aside0 (kq ≤ k) ∧ Aside0 (Below w.heap.size w w'))
  case atStart => exact ⟨(0),(by first | rfl | (simp; done) | (simp [*]; done)),H',⟨Nat.le_refl _⟩,⟨bA⟩⟩
  case round =>
   clear H'
   try clear c1
   try clear c2
   try clear p2
   try clear c3
   try clear c3b0
   try clear c3b1
   try clear c3b2
   obtain ⟨x5_1,rfl,HA,HK1,HB⟩ := hrel
   cases gk with
   | zero => exact absurd HA.out (by simp [laws_eqTombS.l0])
   | succ k1 =>
    have H := HA.out
    clear HA
    simp only [laws_eqTombS.l0] at H
    by_cases c4 : x5_1 < (l0.length : Int)
    ·rw [if_pos c4] at H
     have c4b0 : decide (x5_1 < (l0.length : Int)) = true := decide_eq_true c4
     clear c4
     by_cases c5 : 0 ≤ x5_1
     ·rw [if_pos c5] at H
      have c5b0 : decide (0 ≤ x5_1) = true := decide_eq_true c5
      clear c5
      by_cases c6 : x5_1 < (l1.length : Int)
      ·rw [if_pos c6] at H
       have c6b0 : decide (x5_1 < (l1.length : Int)) = true := decide_eq_true c6
       clear c6
       replace H := Option.bind_eq_some_iff.mp H
       obtain ⟨t365,A70,H⟩ := H
       try dsimp only at H
       have A7 := Aside0.mk A70
       clear A70
       by_cases c8 : t365 = true
       ·subst c8
        rw [if_pos rfl] at H
        have H' := Aside0.mk H
        clear H
        try go_wp2
        have n0_ := Aside0.mk (below_drew1 HB.out)
        clear HB
        have HB := n0_
        clear n0_
        have p363 : 0 ≤ (x5_1 : Int) := od
        have q363 : x5_1 < (l0.length : Int) := od
        obtain ⟨ad363,e363,hx363_0,hx363_1⟩ := at_T71 HR0.out x5_1 p363 q363
        have hw363_1 := hx363_1
        have hw363_0 := hx363_0
        cases e363
        replace hx363_0 := cb HB.out hx363_0
        replace hx363_1 := cb HB.out hx363_1
        replace p363 := eq_true p363
        replace q363 := eq_true q363
        have p364 : 0 ≤ (x5_1 : Int) := od
        have q364 : x5_1 < (l1.length : Int) := od
        obtain ⟨ad364,e364,hx364_0,hx364_1⟩ := at_T71 HR1.out x5_1 p364 q364
        have hw364_1 := hx364_1
        have hw364_0 := hx364_0
        cases e364
        replace hx364_0 := cb HB.out hx364_0
        replace hx364_1 := cb HB.out hx364_1
        replace p364 := eq_true p364
        replace q364 := eq_true q364
        refine start_ (n:=10) (S:=fun w' => w'.cell? (ad363.add ((x5_1).toNat * 2)) = some (.int .i64 ((rd_T71 l0 x5_1).f0)) ∧ w'.cell? ⟨(ad363.add ((x5_1).toNat * 2)).block,(ad363.add ((x5_1).toNat * 2)).off + 1,none⟩ = some (.string ((rd_T71 l0 x5_1).f1)) ∧ w'.cell? (ad364.add ((x5_1).toNat * 2)) = some (.int .i64 ((rd_T71 l1 x5_1).f0)) ∧ w'.cell? ⟨(ad364.add ((x5_1).toNat * 2)).block,(ad364.add ((x5_1).toNat * 2)).off + 1,none⟩ = some (.string ((rd_T71 l1 x5_1).f1))) (ds := []) (bm 10 0) (by kernel_rfl) rfl rfl ⟨(cb HB.out hw363_0),(cb HB.out hw363_1),(cb HB.out hw364_0),(cb HB.out hw364_1)⟩ (fun hHeld => ?_); refine with_tabW laws_eqTombS.tab6 laws_eqTombS.bits6 (fun HT_ HW_ => ?_)
        generalize wr.drew = w9 at HB hx363_0 hx363_1 hx364_0 hx364_1 hHeld ⊢
        refine pV_ 0 17 (bm 10 1) HT_.out ?_
        refine pV_ 1 18 (bm 10 3) HT_.out ?_
        refine pV_ 2 19 (bm 10 7) HT_.out ?_
        refine pV_ 4 21 (bm 10 23) HT_.out ?_
        refine pV_ 5 22 (bm 10 55) HT_.out ?_
        refine pV_ 6 23 (bm 10 119) HT_.out ?_
        refine take_ (i:=3) (N:=some 20) (v:=?_) (a':=?_) (bm 10 127) rfl rfl (take_ofW HT_.out HW_.out (by kernel_rfl)) (fun _ _ _ h => h) (Or.inl ⟨by rfl,?_⟩) hHeld ?_ ?_
        rotate_left
        ·rintro w' ⟨s0,s1,s2,s3⟩
         go_simp
         with_reducible rfl
        rotate_left
        ·simp only [Act.put,setIfInBounds_toArray,set_cons_zero,set_cons_succ,i64_w,i32_w]
         rfl
        refine take_ (i:=7) (N:=some 24) (v:=?_) (a':=?_) (bm 10 255) rfl rfl (take_ofW HT_.out HW_.out (by kernel_rfl)) (fun _ _ _ h => h) (Or.inl ⟨by rfl,?_⟩) hHeld ?_ ?_
        rotate_left
        ·rintro w' ⟨s0,s1,s2,s3⟩
         go_simp
         with_reducible rfl
        rotate_left
        ·simp only [Act.put,setIfInBounds_toArray,set_cons_zero,set_cons_succ,i64_w,i32_w]
         rfl
        refine one_ (i:=8) (N:=some 25) (bm 10 511) rfl rfl (one_of HT_.out (by kernel_rfl)) (by decide) (fun K hK => ?_)
        refine goes_ Tryz.func49 (by kernel_rfl) rfl #[.agg #[.int .i64 ((rd_T71 l0 x5_1).f0),.string ((rd_T71 l0 x5_1).f1)],.agg #[.int .i64 ((rd_T71 l1 x5_1).f0),.string ((rd_T71 l1 x5_1).f1)]] (by rfl) rfl rfl mA ?_
        with_reducible refine (laws_eqTomb.calls ((rd_T71 l0 x5_1).f0) ((rd_T71 l0 x5_1).f1) ((rd_T71 l1 x5_1).f0) ((rd_T71 l1 x5_1).f1) true _ A7.out).mono ?_
        rintro e w10 ⟨rfl,hb⟩
        refine ⟨_,rfl,?_⟩
        have n0_ := Aside0.mk (below_step bA hb)
        clear HB
        have HB := n0_
        clear n0_
        (try clear hb)
        (try clear hb2)
        (try clear hk)
        (try clear hi)
        refine hK.out _ _ ⟨(cb HB.out hw363_0),(cb HB.out hw363_1),(cb HB.out hw364_0),(cb HB.out hw364_1)⟩ (fun hHeld => ?_)
        clear hK K
        refine norm_ (a':=?_) ?_ ?_
        rotate_left
        ·show Act.put _ (some 25) _ = _
         simp only [Act.put,setIfInBounds_toArray,set_cons_zero,set_cons_succ,i64_w,i32_w]
         rfl
        refine pV_ 9 26 (bm 10 1023) HT_.out ?_
        refine done_ (done_of HT_.out (by kernel_rfl)) ?_
        try go_wp2
        go_roundg k1
        case measure => have := HK1.out; omega
        case rel => exact ⟨(wrap64 (x5_1 + 1)),(by first | rfl | (simp; done) | (simp [*]; done)),H',⟨by have := HK1.out; omega⟩,⟨bA⟩⟩
       ·replace c8 := Bool.eq_false_iff.mpr c8
        subst c8
        rw [if_neg (show ¬ (false = true) by decide)] at H
        obtain rfl := Option.some.inj H
        try go_wp2
        have n0_ := Aside0.mk (below_drew1 HB.out)
        clear HB
        have HB := n0_
        clear n0_
        have p363 : 0 ≤ (x5_1 : Int) := od
        have q363 : x5_1 < (l0.length : Int) := od
        obtain ⟨ad363,e363,hx363_0,hx363_1⟩ := at_T71 HR0.out x5_1 p363 q363
        have hw363_1 := hx363_1
        have hw363_0 := hx363_0
        cases e363
        replace hx363_0 := cb HB.out hx363_0
        replace hx363_1 := cb HB.out hx363_1
        replace p363 := eq_true p363
        replace q363 := eq_true q363
        have p364 : 0 ≤ (x5_1 : Int) := od
        have q364 : x5_1 < (l1.length : Int) := od
        obtain ⟨ad364,e364,hx364_0,hx364_1⟩ := at_T71 HR1.out x5_1 p364 q364
        have hw364_1 := hx364_1
        have hw364_0 := hx364_0
        cases e364
        replace hx364_0 := cb HB.out hx364_0
        replace hx364_1 := cb HB.out hx364_1
        replace p364 := eq_true p364
        replace q364 := eq_true q364
        refine start_ (n:=10) (S:=fun w' => w'.cell? (ad363.add ((x5_1).toNat * 2)) = some (.int .i64 ((rd_T71 l0 x5_1).f0)) ∧ w'.cell? ⟨(ad363.add ((x5_1).toNat * 2)).block,(ad363.add ((x5_1).toNat * 2)).off + 1,none⟩ = some (.string ((rd_T71 l0 x5_1).f1)) ∧ w'.cell? (ad364.add ((x5_1).toNat * 2)) = some (.int .i64 ((rd_T71 l1 x5_1).f0)) ∧ w'.cell? ⟨(ad364.add ((x5_1).toNat * 2)).block,(ad364.add ((x5_1).toNat * 2)).off + 1,none⟩ = some (.string ((rd_T71 l1 x5_1).f1))) (ds := []) (bm 10 0) (by kernel_rfl) rfl rfl ⟨(cb HB.out hw363_0),(cb HB.out hw363_1),(cb HB.out hw364_0),(cb HB.out hw364_1)⟩ (fun hHeld => ?_); refine with_tabW laws_eqTombS.tab6 laws_eqTombS.bits6 (fun HT_ HW_ => ?_)
        generalize wr.drew = w11 at HB hx363_0 hx363_1 hx364_0 hx364_1 hHeld ⊢
        refine pV_ 0 17 (bm 10 1) HT_.out ?_
        refine pV_ 1 18 (bm 10 3) HT_.out ?_
        refine pV_ 2 19 (bm 10 7) HT_.out ?_
        refine pV_ 4 21 (bm 10 23) HT_.out ?_
        refine pV_ 5 22 (bm 10 55) HT_.out ?_
        refine pV_ 6 23 (bm 10 119) HT_.out ?_
        refine take_ (i:=3) (N:=some 20) (v:=?_) (a':=?_) (bm 10 127) rfl rfl (take_ofW HT_.out HW_.out (by kernel_rfl)) (fun _ _ _ h => h) (Or.inl ⟨by rfl,?_⟩) hHeld ?_ ?_
        rotate_left
        ·rintro w' ⟨s0,s1,s2,s3⟩
         go_simp
         with_reducible rfl
        rotate_left
        ·simp only [Act.put,setIfInBounds_toArray,set_cons_zero,set_cons_succ,i64_w,i32_w]
         rfl
        refine take_ (i:=7) (N:=some 24) (v:=?_) (a':=?_) (bm 10 255) rfl rfl (take_ofW HT_.out HW_.out (by kernel_rfl)) (fun _ _ _ h => h) (Or.inl ⟨by rfl,?_⟩) hHeld ?_ ?_
        rotate_left
        ·rintro w' ⟨s0,s1,s2,s3⟩
         go_simp
         with_reducible rfl
        rotate_left
        ·simp only [Act.put,setIfInBounds_toArray,set_cons_zero,set_cons_succ,i64_w,i32_w]
         rfl
        refine one_ (i:=8) (N:=some 25) (bm 10 511) rfl rfl (one_of HT_.out (by kernel_rfl)) (by decide) (fun K hK => ?_)
        refine goes_ Tryz.func49 (by kernel_rfl) rfl #[.agg #[.int .i64 ((rd_T71 l0 x5_1).f0),.string ((rd_T71 l0 x5_1).f1)],.agg #[.int .i64 ((rd_T71 l1 x5_1).f0),.string ((rd_T71 l1 x5_1).f1)]] (by rfl) rfl rfl mA ?_
        with_reducible refine (laws_eqTomb.calls ((rd_T71 l0 x5_1).f0) ((rd_T71 l0 x5_1).f1) ((rd_T71 l1 x5_1).f0) ((rd_T71 l1 x5_1).f1) false _ A7.out).mono ?_
        rintro e w12 ⟨rfl,hb⟩
        refine ⟨_,rfl,?_⟩
        have n0_ := Aside0.mk (below_step bA hb)
        clear HB
        have HB := n0_
        clear n0_
        (try clear hb)
        (try clear hb2)
        (try clear hk)
        (try clear hi)
        refine hK.out _ _ ⟨(cb HB.out hw363_0),(cb HB.out hw363_1),(cb HB.out hw364_0),(cb HB.out hw364_1)⟩ (fun hHeld => ?_)
        clear hK K
        refine norm_ (a':=?_) ?_ ?_
        rotate_left
        ·show Act.put _ (some 25) _ = _
         simp only [Act.put,setIfInBounds_toArray,set_cons_zero,set_cons_succ,i64_w,i32_w]
         rfl
        refine pV_ 9 26 (bm 10 1023) HT_.out ?_
        refine done_ (done_of HT_.out (by kernel_rfl)) ?_
        try go_wp2
        go_ret
        exact ⟨by first | rfl | (simp only [i64_w,i32_w] <;> rfl) | (simp [errW_none,errW_some] <;> rfl) | (simp [*,errW_none,errW_some] <;> rfl),bA⟩
      ·rw [if_neg c6] at H
       exact absurd H (by simp)
     ·rw [if_neg c5] at H
      exact absurd H (by simp)
    ·rw [if_neg c4] at H
     have c4b0 : decide (x5_1 < (l0.length : Int)) = false := decide_eq_false c4
     clear c4
     obtain rfl := Option.some.inj H
     go_wp2
     go_ret
     exact ⟨by first | rfl | (simp only [i64_w,i32_w] <;> rfl) | (simp [errW_none,errW_some] <;> rfl) | (simp [*,errW_none,errW_some] <;> rfl),bA⟩
 ·rw [if_neg c3] at H
  have c3b0 : ((l0.length : Int) == (l1.length : Int)) = false := beq_eq_false_iff_ne.mpr c3
  have c3b1 : ((l0.length : Int) != (l1.length : Int)) = true := bne_iff_ne.mpr c3
  have c3b2 : (l0.length == l1.length) = false := by first | simpa using c3 | (simp at c3 ⊢; omega)
  obtain rfl := Option.some.inj H
  go_enter Tryz.func27,Tryz.ntmps27
  go_wp2
  go_ret
  exact ⟨by first | rfl | (simp only [i64_w,i32_w] <;> rfl) | (simp [errW_none,errW_some] <;> rfl) | (simp [*,errW_none,errW_some] <;> rfl),bA⟩

/-! ### laws_eqIntA3: function 28 (by hand) -/
def laws_eqIntA3.f (a0 a1 a2 b0 b1 b2 : Int) : Option Bool := some (a0 == b0 && (a1 == b1 && a2 == b2))
def ia_rest (a0 a1 a2 b0 b1 b2 : Int) : Nat → Bool
 | 0 => a0 == b0 && (a1 == b1 && a2 == b2)
 | 1 => a1 == b1 && a2 == b2
 | 2 => a2 == b2
 | _ => true
set_option maxHeartbeats 8000000 in
set_option maxRecDepth 100000 in
theorem laws_eqIntA3.calls (a0 a1 a2 b0 b1 b2 : Int) (r : Bool) (w : World) (h : laws_eqIntA3.f a0 a1 a2 b0 b1 b2 = some r) :
  Calls Tryz.prog 28 #[.agg #[.int .i64 a0,.int .i64 a1,.int .i64 a2],.agg #[.int .i64 b0,.int .i64 b1,.int .i64 b2]] w fun e w' => e = .returned (.bool r) ∧ Below w.heap.size w w' := by
 have HE0 : Aside0 (ia_rest a0 a1 a2 b0 b1 b2 0 = r) := ⟨Option.some.inj h⟩
 clear h
 have HB := Aside0.mk (Below.refl w.heap.size w)
 have hu80 := Tryz.underlying24
 go_enter Tryz.func28,Tryz.ntmps28
 go_wp2_with (first
  | ((with_reducible refine gate_dst (N:=2) rfl ?_); refine box_event ?hg (N:=2) ?hd (cs := #[.int .i64 a0,.int .i64 a1,.int .i64 a2]) (t:=24) ?hr ?_; (case hd => rfl); (case hg => rfl); (case hr => first | (go_simp; done) | (go_simp; rfl)); intro g1 hg1 w1 hbox hb; have HB1 := Aside0.mk (below_step HB.out hb); have BKa := Aside0.mk hbox; clear hb hbox hg1)
  | ((with_reducible refine gate_dst (N:=3) rfl ?_); refine box_event ?hg (N:=3) ?hd (cs := #[.int .i64 b0,.int .i64 b1,.int .i64 b2]) (t:=24) ?hr ?_; (case hd => rfl); (case hg => rfl); (case hr => first | (go_simp; done) | (go_simp; rfl)); intro g2 hg2 w2 hbox hb; have HB2 := Aside0.mk (below_step HB1.out hb); have BKb := Aside0.mk hbox; have BKa2 := Aside0.mk ((hb.block g1 (blk_lt BKa.out)).trans BKa.out); clear hb hbox hg2))
 go_loopg [5] 3 (fun gg s5 wr => ∃ i : Nat,i ≤ 3 ∧ 3 - i ≤ gg ∧ s5 = .int .i64 i ∧ Aside0 (wr.heap[g1]? = some (.cells #[.int .i64 a0,.int .i64 a1,.int .i64 a2] 24 (0,0))) ∧ Aside0 (wr.heap[g2]? = some (.cells #[.int .i64 b0,.int .i64 b1,.int .i64 b2] 24 (0,0))) ∧ Aside0 (ia_rest a0 a1 a2 b0 b1 b2 i = r) ∧ Aside0 (Below w.heap.size w wr))
 case atStart => exact ⟨0,by omega,by omega,rfl,BKa2,BKb,HE0,HB2⟩
 case round =>
  clear BKa2 BKb BKa HB1 HB2 HE0
  obtain ⟨i,hi,hg,rfl,BKa,BKb,HE,HBr⟩ := hrel
  obtain rfl | rfl | rfl | rfl : i = 0 ∨ i = 1 ∨ i = 2 ∨ i = 3 := by omega
  ·have hca : wr.cell? ⟨g1,0,none⟩ = some (.int .i64 a0) := bl BKa 0
   have hcb : wr.cell? ⟨g2,0,none⟩ = some (.int .i64 b0) := bl BKb 0
   by_cases he : a0 = b0
   ·have hne : (a0 != b0) = false := by simp [he]
    have hE2 : Aside0 (ia_rest a0 a1 a2 b0 b1 b2 1 = r) := ⟨by have := HE.out; unfold ia_rest at this ⊢; simpa [he] using this⟩
    go_wp2
    repeat (go_quiet (fail))
    go_wp2
    go_roundg 2
    case measure => omega
    case rel => exact ⟨1,by omega,by omega,by go_num,⟨blk_drewN BKa.out _⟩,⟨blk_drewN BKb.out _⟩,hE2,⟨pw_below_drewN HBr.out _⟩⟩
   ·have hne : (a0 != b0) = true := by simp [he]
    have hE2 : Aside0 (r = false) := ⟨by have h1 := HE.out; have h2 : (a0 == b0) = false := beq_eq_false_iff_ne.2 he; unfold ia_rest at h1; rw [h2] at h1; exact h1.symm⟩
    go_wp2
    repeat (go_quiet (fail))
    go_wp2
    go_ret
    exact ⟨by rw [hE2.out]; rfl,pw_below_drewN HBr.out _⟩
  ·have hca : wr.cell? ⟨g1,1,none⟩ = some (.int .i64 a1) := bl BKa 1
   have hcb : wr.cell? ⟨g2,1,none⟩ = some (.int .i64 b1) := bl BKb 1
   by_cases he : a1 = b1
   ·have hne : (a1 != b1) = false := by simp [he]
    have hE2 : Aside0 (ia_rest a0 a1 a2 b0 b1 b2 2 = r) := ⟨by have := HE.out; unfold ia_rest at this ⊢; simpa [he] using this⟩
    go_wp2
    repeat (go_quiet (fail))
    go_wp2
    go_roundg 1
    case measure => omega
    case rel => exact ⟨2,by omega,by omega,by go_num,⟨blk_drewN BKa.out _⟩,⟨blk_drewN BKb.out _⟩,hE2,⟨pw_below_drewN HBr.out _⟩⟩
   ·have hne : (a1 != b1) = true := by simp [he]
    have hE2 : Aside0 (r = false) := ⟨by have h1 := HE.out; have h2 : (a1 == b1) = false := beq_eq_false_iff_ne.2 he; unfold ia_rest at h1; rw [h2] at h1; exact h1.symm⟩
    go_wp2
    repeat (go_quiet (fail))
    go_wp2
    go_ret
    exact ⟨by rw [hE2.out]; rfl,pw_below_drewN HBr.out _⟩
  ·have hca : wr.cell? ⟨g1,2,none⟩ = some (.int .i64 a2) := bl BKa 2
   have hcb : wr.cell? ⟨g2,2,none⟩ = some (.int .i64 b2) := bl BKb 2
   by_cases he : a2 = b2
   ·have hne : (a2 != b2) = false := by simp [he]
    have hE2 : Aside0 (ia_rest a0 a1 a2 b0 b1 b2 3 = r) := ⟨by have := HE.out; unfold ia_rest at this ⊢; simpa [he] using this⟩
    go_wp2
    repeat (go_quiet (fail))
    go_wp2
    go_roundg 0
    case measure => omega
    case rel => exact ⟨3,by omega,by omega,by go_num,⟨blk_drewN BKa.out _⟩,⟨blk_drewN BKb.out _⟩,hE2,⟨pw_below_drewN HBr.out _⟩⟩
   ·have hne : (a2 != b2) = true := by simp [he]
    have hE2 : Aside0 (r = false) := ⟨by have h1 := HE.out; have h2 : (a2 == b2) = false := beq_eq_false_iff_ne.2 he; unfold ia_rest at h1; rw [h2] at h1; exact h1.symm⟩
    go_wp2
    repeat (go_quiet (fail))
    go_wp2
    go_ret
    exact ⟨by rw [hE2.out]; rfl,pw_below_drewN HBr.out _⟩
  ·have hE2 : Aside0 (r = true) := ⟨HE.out.symm⟩
   go_wp2
   go_ret
   exact ⟨by rw [hE2.out]; rfl,HBr.out⟩

end Go.Proofs.YtfondhlknkhmmaaGreatDoor.XFnExactOrphansOf
