-- Printed by this session's own program wip/tools/xprint.py, which widens the kit's print. Not trusted: Lean checks it.
import Derived.Test.YtleifhnoaaphmaaGreatDoorXFnExactWindowOfx0
import Derived.Test.YtleifhnoaaphmaaGreatDoorXFnExactWindowOfx2
import Derived.Test.YtleifhnoaaphmaaGreatDoorXFnExactWindowOfx7
namespace Go.Proofs.YtleifhnoaaphmaaGreatDoor.XFnExactWindowOf
open List (setIfInBounds_toArray set_cons_zero set_cons_succ)
open Go.RowKit Go.Proofs.YtleifhnoaaphmaaGreatDoorW.PrintWords Go.Proofs.YtleifhnoaaphmaaGreatDoorW.PrintLast Go.Proofs.YtleifhnoaaphmaaGreatDoorW.PrintMore
attribute [local go_sem] max2_int min2_int max_two min_two max_three min_three max_four min_four   -- for this text's walks alone
set_option linter.unusedVariables false
set_option linter.unusedSimpArgs false

/-! ### spec_BucketsOK: function 42 -/
mutual
def spec_BucketsOK.l0 : Nat → List (S75) → Int → Option (Bool)
 | 0,_,_ => none
 | k + 1,x0,x3 => if x3 < (x0.length : Int) then (if 0 ≤ x3 then ((spec_l01In.f ((rd_T75 x0 x3).f0) 0 99999).bind fun t241 => (if t241 = true then ((spec_AggOK.f ((rd_T75 x0 x3).f1.f0) ((rd_T75 x0 x3).f1.f1) ((rd_T75 x0 x3).f1.f2) ((rd_T75 x0 x3).f1.f3) ((rd_T75 x0 x3).f1.f4) ((rd_T75 x0 x3).f1.f5)).bind fun t243 => (if t243 = true then (if ((rd_T75 x0 x3).f1.f0) = 0 then (spec_BucketsOK.j1 k x0 x3 true) else (if x3 > 0 then (if 0 ≤ (wrap64 (x3 - 1)) then (if (wrap64 (x3 - 1)) < (x0.length : Int) then (spec_BucketsOK.j1 k x0 x3 (decide (((rd_T75 x0 (wrap64 (x3 - 1))).f0) ≥ ((rd_T75 x0 x3).f0)))) else (none)) else (none)) else (spec_BucketsOK.j1 k x0 x3 false))) else (spec_BucketsOK.j1 k x0 x3 true))) else (spec_BucketsOK.j1 k x0 x3 true))) else (none)) else (some (decide ((x0.length : Int) ≤ 8)))
def spec_BucketsOK.j1 : Nat → List (S75) → Int → Bool → Option (Bool)
 | 0,_,_,_ => none
 | k + 1,x0,x3,x55 => if x55 = true then (some false) else (spec_BucketsOK.l0 k x0 (wrap64 (x3 + 1)))
end
def spec_BucketsOK.f (k : Nat) (l0 : List (S75)) : Option (Bool) := if (l0.length : Int) > 4096 then (some false) else (spec_BucketsOK.l0 k l0 0)
theorem spec_BucketsOK.mono_l : ∀ k,(∀ y0 y1,LeO (spec_BucketsOK.l0 k y0 y1) (spec_BucketsOK.l0 (k + 1) y0 y1)) ∧ (∀ y0 y1 y2,LeO (spec_BucketsOK.j1 k y0 y1 y2) (spec_BucketsOK.j1 (k + 1) y0 y1 y2))
 | 0 => ⟨fun _ _ r h => by simp [spec_BucketsOK.l0] at h,fun _ _ _ r h => by simp [spec_BucketsOK.j1] at h⟩
 | k + 1 => by
  obtain ⟨ih0,ih1⟩ := spec_BucketsOK.mono_l k
  refine ⟨?_,?_⟩
  ·intro y0 y1
   unfold spec_BucketsOK.l0
   repeat' first
   | (with_reducible exact ih0 _ _)
   | (with_reducible exact ih1 _ _ _)
   | (with_reducible exact LeO.refl _)
   | (with_reducible exact LeO.none _)
   | (with_reducible refine LeO.ite ?_ ?_)
   | (with_reducible refine LeO.bind ?_ (fun _ => ?_))
   | exact ih0 _ _
   | exact ih1 _ _ _
   | exact LeO.none _
   | refine LeO.ite ?_ ?_
   | refine LeO.bind ?_ (fun _ => ?_)
  ·intro y0 y1 y2
   unfold spec_BucketsOK.j1
   repeat' first
   | (with_reducible exact ih0 _ _)
   | (with_reducible exact ih1 _ _ _)
   | (with_reducible exact LeO.refl _)
   | (with_reducible exact LeO.none _)
   | (with_reducible refine LeO.ite ?_ ?_)
   | (with_reducible refine LeO.bind ?_ (fun _ => ?_))
   | exact ih0 _ _
   | exact ih1 _ _ _
   | exact LeO.none _
   | refine LeO.ite ?_ ?_
   | refine LeO.bind ?_ (fun _ => ?_)
theorem spec_BucketsOK.mono : ∀ a0 k,LeO (spec_BucketsOK.f k a0) (spec_BucketsOK.f (k + 1) a0) := by
 intro a0 k
 obtain ⟨ih0,ih1⟩ := spec_BucketsOK.mono_l k
 unfold spec_BucketsOK.f
 repeat' first
   | (with_reducible exact ih0 _ _)
   | (with_reducible exact ih1 _ _ _)
   | (with_reducible exact LeO.refl _)
   | (with_reducible exact LeO.none _)
   | (with_reducible refine LeO.ite ?_ ?_)
   | (with_reducible refine LeO.bind ?_ (fun _ => ?_))
   | exact ih0 _ _
   | exact ih1 _ _ _
   | exact LeO.none _
   | refine LeO.ite ?_ ?_
   | refine LeO.bind ?_ (fun _ => ?_)
def spec_BucketsOK.T6 : Bool × List (List Nat × List Nat) := (true,[([],[]),([],[]),([0,1],[0,1]),([2],[2]),([3],[3]),([4],[4]),([5],[5]),([6,5],[6]),([7],[7]),([7],[7]),([8,9,7],[7,8,9]),([10,7],[7,10]),([11,7],[7,11]),([12,7,7],[7,12]),([13,7],[7,13]),([7,14],[7,14]),([15,13],[15]),([16],[16]),([16],[16]),([17,18,16],[16,17,18]),([19,16],[16,19]),([20,16],[16,20]),([21,16],[16,21]),([22,16],[16,22]),([16,23],[16,23]),([24,16],[24]),([25],[25]),([26,25],[25,26]),([27,25,25],[25,27]),([28],[28]),([28],[28]),([30,28],[28,30]),([29,31,28],[28,29,31]),([32,28],[28,32]),([33,28],[28,33]),([28],[28]),([28],[28]),([35,36,28],[28,35,36]),([37,28],[28,37]),([38,28],[28,38]),([34,39,28],[28,34,39]),([28,40,25],[25,28,40]),([25,41],[25,41])])
def spec_BucketsOK.B6 : List Nat := [0,0,3,7,15,31,63,127,255,255,1023,2047,4095,8191,16383,32767,65535,131071,131071,524287,1048575,2097151,4194303,8388607,16777215,33554431,67108863,134217727,268435455,536870911,536870911,1610612735,4294967295,8589934591,17179869183,536870911,536870911,103616086015,241055039487,515932946431,1099511627775,2199023255551,4398046511103]
theorem spec_BucketsOK.tab6 : rtab .any (opsOf Tryz.f42 6) = spec_BucketsOK.T6 := by kernel_rfl
theorem spec_BucketsOK.bits6 : waitsOk spec_BucketsOK.T6.2 spec_BucketsOK.B6 = true := by kernel_rfl
set_option maxHeartbeats 8000000 in
set_option maxRecDepth 100000 in
theorem spec_BucketsOK.calls (k : Nat) (A0 : Option Addr) (c0 : Nat) (l0 : List (S75)) (r : Bool) (w : World) (hr0 : Kd.C k75 w A0 l0.length l0) (hc0 : l0.length ≤ c0) (h : spec_BucketsOK.f k l0 = some r) :
  Calls Tryz.prog 42 #[.slice A0 l0.length c0] w fun e w' => e = .returned (.bool r) ∧ Below w.heap.size w w' := by
 have hu26 := Tryz.underlying26
 have HR0 := Aside0.mk hr0
 have HC0 := Aside0.mk hc0
 clear hr0 hc0
 have HB := Aside0.mk (Below.refl w.heap.size w)
 have H : (if (l0.length : Int) > 4096 then (some false) else (spec_BucketsOK.l0 k l0 0)) = some r := h
 clear h
 by_cases c2 : (l0.length : Int) > 4096
 ·rw [if_pos c2] at H
  have c2b0 : decide (4096 < (l0.length : Int)) = true := decide_eq_true c2
  have c2b1 : decide (4096 < l0.length) = true := decide_eq_true (by omega)
  clear c2
  obtain rfl := Option.some.inj H
  go_enter Tryz.func42,Tryz.ntmps42
  go_wp2
  go_ret
  exact ⟨by first | rfl | (simp only [i64_w,i32_w] <;> rfl) | (simp [errW_none,errW_some] <;> rfl) | (simp [*,errW_none,errW_some] <;> rfl),bA⟩
 ·rw [if_neg c2] at H
  have c2b0 : decide (4096 < (l0.length : Int)) = false := decide_eq_false c2
  have c2b1 : decide (4096 < l0.length) = false := decide_eq_false (by omega)
  clear c2
  have H' := Aside0.mk H
  clear H
  go_enter Tryz.func42,Tryz.ntmps42
  go_wp2
  go_loopg [3] k (fun kq v3 w' => ∃ (x3_1 : Int),v3 = .int .i64 x3_1 ∧ Aside0 (spec_BucketsOK.l0 kq l0 x3_1 = some r) ∧ Aside0 (kq ≤ k) ∧ Aside0 (Below w.heap.size w w'))
  case atStart => exact ⟨(0),(by first | rfl | (simp; done) | (simp [*]; done)),H',⟨Nat.le_refl _⟩,⟨bA⟩⟩
  case round =>
   clear H'
   try clear c2
   try clear c2b0
   try clear c2b1
   try clear p2
   obtain ⟨x3_1,rfl,HA,HK1,HB⟩ := hrel
   cases gk with
   | zero => exact absurd HA.out (by simp [spec_BucketsOK.l0])
   | succ k1 =>
    have H := HA.out
    clear HA
    simp only [spec_BucketsOK.l0] at H
    by_cases c3 : x3_1 < (l0.length : Int)
    ·rw [if_pos c3] at H
     have c3b0 : decide (x3_1 < (l0.length : Int)) = true := decide_eq_true c3
     clear c3
     have HC4 := Aside0.mk H
     clear H
     go_upto_region 6 with (fail)
     go_cut [55] (fun v55 wc => ∃ (kq : Nat) (x55_3 : Bool),v55 = .bool x55_3 ∧ Aside0 (spec_BucketsOK.j1 kq l0 x3_1 x55_3 = some r) ∧ Aside0 (kq ≤ k1) ∧ Aside0 (Below w.heap.size w wc))
     case first =>
      have H := HC4.out
      clear HC4
      by_cases c5 : 0 ≤ x3_1
      ·rw [if_pos c5] at H
       have c5b0 : decide (0 ≤ x3_1) = true := decide_eq_true c5
       clear c5
       (first | rw [c5b0] | (simp only [i64_w,i32_w]; rw [c5b0]) | skip)
       replace H := Option.bind_eq_some_iff.mp H
       obtain ⟨t241,A60,H⟩ := H
       try dsimp only at H
       have A6 := Aside0.mk A60
       clear A60
       by_cases c7 : t241 = true
       ·subst c7
        rw [if_pos rfl] at H
        replace H := Option.bind_eq_some_iff.mp H
        obtain ⟨t243,A80,H⟩ := H
        try dsimp only at H
        have A8 := Aside0.mk A80
        clear A80
        by_cases c9 : t243 = true
        ·subst c9
         rw [if_pos rfl] at H
         by_cases c10 : ((rd_T75 l0 x3_1).f1.f0) = 0
         ·rw [if_pos c10] at H
          have c10b0 : (((rd_T75 l0 x3_1).f1.f0) == 0) = true := beq_iff_eq.mpr c10
          have c10b1 : (((rd_T75 l0 x3_1).f1.f0) != 0) = false := bne_eq_false_iff_eq.mpr c10
          clear c10
          have H' := Aside0.mk H
          clear H
          try go_wp2
          have n0_ := Aside0.mk (below_drew1 HB.out)
          clear HB
          have HB := n0_
          clear n0_
          have p240 : 0 ≤ (x3_1 : Int) := od
          have q240 : x3_1 < (l0.length : Int) := od
          obtain ⟨ad240,e240,hx240_0,hx240_1,hx240_2,hx240_3,hx240_4,hx240_5,hx240_6⟩ := at_T75 HR0.out x3_1 p240 q240
          have hw240_6 := hx240_6
          have hw240_5 := hx240_5
          have hw240_4 := hx240_4
          have hw240_3 := hx240_3
          have hw240_2 := hx240_2
          have hw240_1 := hx240_1
          have hw240_0 := hx240_0
          cases e240
          replace hx240_0 := cb HB.out hx240_0
          replace hx240_1 := cb HB.out hx240_1
          replace hx240_2 := cb HB.out hx240_2
          replace hx240_3 := cb HB.out hx240_3
          replace hx240_4 := cb HB.out hx240_4
          replace hx240_5 := cb HB.out hx240_5
          replace hx240_6 := cb HB.out hx240_6
          replace p240 := eq_true p240
          replace q240 := eq_true q240
          have p242 : 0 ≤ (x3_1 : Int) := od
          have q242 : x3_1 < (l0.length : Int) := od
          obtain ⟨ad242,e242,hx242_0,hx242_1,hx242_2,hx242_3,hx242_4,hx242_5,hx242_6⟩ := at_T75 HR0.out x3_1 p242 q242
          have hw242_6 := hx242_6
          have hw242_5 := hx242_5
          have hw242_4 := hx242_4
          have hw242_3 := hx242_3
          have hw242_2 := hx242_2
          have hw242_1 := hx242_1
          have hw242_0 := hx242_0
          obtain rfl : ad240 = ad242 := (by injection e242)
          replace hx242_0 := cb HB.out hx242_0
          replace hx242_1 := cb HB.out hx242_1
          replace hx242_2 := cb HB.out hx242_2
          replace hx242_3 := cb HB.out hx242_3
          replace hx242_4 := cb HB.out hx242_4
          replace hx242_5 := cb HB.out hx242_5
          replace hx242_6 := cb HB.out hx242_6
          replace p242 := eq_true p242
          replace q242 := eq_true q242
          have p244 : 0 ≤ (x3_1 : Int) := od
          have q244 : x3_1 < (l0.length : Int) := od
          obtain ⟨ad244,e244,hx244_0,hx244_1,hx244_2,hx244_3,hx244_4,hx244_5,hx244_6⟩ := at_T75 HR0.out x3_1 p244 q244
          have hw244_6 := hx244_6
          have hw244_5 := hx244_5
          have hw244_4 := hx244_4
          have hw244_3 := hx244_3
          have hw244_2 := hx244_2
          have hw244_1 := hx244_1
          have hw244_0 := hx244_0
          obtain rfl : ad240 = ad244 := (by injection e244)
          replace hx244_0 := cb HB.out hx244_0
          replace hx244_1 := cb HB.out hx244_1
          replace hx244_2 := cb HB.out hx244_2
          replace hx244_3 := cb HB.out hx244_3
          replace hx244_4 := cb HB.out hx244_4
          replace hx244_5 := cb HB.out hx244_5
          replace hx244_6 := cb HB.out hx244_6
          replace p244 := eq_true p244
          replace q244 := eq_true q244
          refine start_ (n:=43) (S:=fun w' => w'.cell? (ad240.add ((x3_1).toNat * 7)) = some (.int .i64 ((rd_T75 l0 x3_1).f0)) ∧ w'.cell? ⟨(ad240.add ((x3_1).toNat * 7)).block,(ad240.add ((x3_1).toNat * 7)).off + 1,none⟩ = some (.int .i64 ((rd_T75 l0 x3_1).f1.f0)) ∧ w'.cell? ⟨(ad240.add ((x3_1).toNat * 7)).block,(ad240.add ((x3_1).toNat * 7)).off + 2,none⟩ = some (.int .i64 ((rd_T75 l0 x3_1).f1.f1)) ∧ w'.cell? ⟨(ad240.add ((x3_1).toNat * 7)).block,(ad240.add ((x3_1).toNat * 7)).off + 3,none⟩ = some (.int .i64 ((rd_T75 l0 x3_1).f1.f2)) ∧ w'.cell? ⟨(ad240.add ((x3_1).toNat * 7)).block,(ad240.add ((x3_1).toNat * 7)).off + 4,none⟩ = some (.int .i64 ((rd_T75 l0 x3_1).f1.f3)) ∧ w'.cell? ⟨(ad240.add ((x3_1).toNat * 7)).block,(ad240.add ((x3_1).toNat * 7)).off + 5,none⟩ = some (.int .i64 ((rd_T75 l0 x3_1).f1.f4)) ∧ w'.cell? ⟨(ad240.add ((x3_1).toNat * 7)).block,(ad240.add ((x3_1).toNat * 7)).off + 6,none⟩ = some (.int .i64 ((rd_T75 l0 x3_1).f1.f5)) ∧ w'.cell? (ad240.add ((x3_1).toNat * 7)) = some (.int .i64 ((rd_T75 l0 x3_1).f0)) ∧ w'.cell? ⟨(ad240.add ((x3_1).toNat * 7)).block,(ad240.add ((x3_1).toNat * 7)).off + 1,none⟩ = some (.int .i64 ((rd_T75 l0 x3_1).f1.f0)) ∧ w'.cell? ⟨(ad240.add ((x3_1).toNat * 7)).block,(ad240.add ((x3_1).toNat * 7)).off + 2,none⟩ = some (.int .i64 ((rd_T75 l0 x3_1).f1.f1)) ∧ w'.cell? ⟨(ad240.add ((x3_1).toNat * 7)).block,(ad240.add ((x3_1).toNat * 7)).off + 3,none⟩ = some (.int .i64 ((rd_T75 l0 x3_1).f1.f2)) ∧ w'.cell? ⟨(ad240.add ((x3_1).toNat * 7)).block,(ad240.add ((x3_1).toNat * 7)).off + 4,none⟩ = some (.int .i64 ((rd_T75 l0 x3_1).f1.f3)) ∧ w'.cell? ⟨(ad240.add ((x3_1).toNat * 7)).block,(ad240.add ((x3_1).toNat * 7)).off + 5,none⟩ = some (.int .i64 ((rd_T75 l0 x3_1).f1.f4)) ∧ w'.cell? ⟨(ad240.add ((x3_1).toNat * 7)).block,(ad240.add ((x3_1).toNat * 7)).off + 6,none⟩ = some (.int .i64 ((rd_T75 l0 x3_1).f1.f5)) ∧ w'.cell? (ad240.add ((x3_1).toNat * 7)) = some (.int .i64 ((rd_T75 l0 x3_1).f0)) ∧ w'.cell? ⟨(ad240.add ((x3_1).toNat * 7)).block,(ad240.add ((x3_1).toNat * 7)).off + 1,none⟩ = some (.int .i64 ((rd_T75 l0 x3_1).f1.f0)) ∧ w'.cell? ⟨(ad240.add ((x3_1).toNat * 7)).block,(ad240.add ((x3_1).toNat * 7)).off + 2,none⟩ = some (.int .i64 ((rd_T75 l0 x3_1).f1.f1)) ∧ w'.cell? ⟨(ad240.add ((x3_1).toNat * 7)).block,(ad240.add ((x3_1).toNat * 7)).off + 3,none⟩ = some (.int .i64 ((rd_T75 l0 x3_1).f1.f2)) ∧ w'.cell? ⟨(ad240.add ((x3_1).toNat * 7)).block,(ad240.add ((x3_1).toNat * 7)).off + 4,none⟩ = some (.int .i64 ((rd_T75 l0 x3_1).f1.f3)) ∧ w'.cell? ⟨(ad240.add ((x3_1).toNat * 7)).block,(ad240.add ((x3_1).toNat * 7)).off + 5,none⟩ = some (.int .i64 ((rd_T75 l0 x3_1).f1.f4)) ∧ w'.cell? ⟨(ad240.add ((x3_1).toNat * 7)).block,(ad240.add ((x3_1).toNat * 7)).off + 6,none⟩ = some (.int .i64 ((rd_T75 l0 x3_1).f1.f5))) (ds := []) (bm 43 0) (by kernel_rfl) rfl rfl ⟨(cb HB.out hw240_0),(cb HB.out hw240_1),(cb HB.out hw240_2),(cb HB.out hw240_3),(cb HB.out hw240_4),(cb HB.out hw240_5),(cb HB.out hw240_6),(cb HB.out hw242_0),(cb HB.out hw242_1),(cb HB.out hw242_2),(cb HB.out hw242_3),(cb HB.out hw242_4),(cb HB.out hw242_5),(cb HB.out hw242_6),(cb HB.out hw244_0),(cb HB.out hw244_1),(cb HB.out hw244_2),(cb HB.out hw244_3),(cb HB.out hw244_4),(cb HB.out hw244_5),(cb HB.out hw244_6)⟩ (fun hHeld => ?_); refine with_tabW spec_BucketsOK.tab6 spec_BucketsOK.bits6 (fun HT_ HW_ => ?_)
          generalize wr.drew = w11 at HB hx240_0 hx240_1 hx240_2 hx240_3 hx240_4 hx240_5 hx240_6 hx242_0 hx242_1 hx242_2 hx242_3 hx242_4 hx242_5 hx242_6 hx244_0 hx244_1 hx244_2 hx244_3 hx244_4 hx244_5 hx244_6 hHeld ⊢
          refine pV_ 0 13 (bm 43 1) HT_.out ?_
          refine pV_ 1 14 (bm 43 3) HT_.out ?_
          refine pV_ 2 15 (bm 43 7) HT_.out ?_
          refine pV_ 3 16 (bm 43 15) HT_.out ?_
          refine take_ (i:=4) (N:=some 17) (v:=?_) (a':=?_) (bm 43 31) rfl rfl (take_ofW HT_.out HW_.out (by kernel_rfl)) (fun _ _ _ h => h) (Or.inl ⟨by rfl,?_⟩) hHeld ?_ ?_
          rotate_left
          ·rintro w' ⟨s0,s1,s2,s3,s4,s5,s6,s7,s8,s9,s10,s11,s12,s13,s14,s15,s16,s17,s18,s19,s20⟩
           go_simp
           with_reducible rfl
          rotate_left
          ·simp only [Act.put,setIfInBounds_toArray,set_cons_zero,set_cons_succ,i64_w,i32_w]
           rfl
          refine one_ (i:=5) (N:=some 18) (bm 43 63) rfl rfl (one_of HT_.out (by kernel_rfl)) (by decide) (fun K hK => ?_)
          refine goes_ Tryz.func18 (by kernel_rfl) rfl #[.int .i64 ((rd_T75 l0 x3_1).f0),.int .i64 0,.int .i64 99999] (by rfl) rfl rfl mA ?_
          with_reducible refine (spec_l01In.calls ((rd_T75 l0 x3_1).f0) 0 99999 true _ A6.out).mono ?_
          rintro e w' ⟨rfl,⟨nd,rfl⟩⟩
          refine ⟨_,rfl,?_⟩
          refine hK.out _ _ ⟨(cb HB.out hw240_0),(cb HB.out hw240_1),(cb HB.out hw240_2),(cb HB.out hw240_3),(cb HB.out hw240_4),(cb HB.out hw240_5),(cb HB.out hw240_6),(cb HB.out hw242_0),(cb HB.out hw242_1),(cb HB.out hw242_2),(cb HB.out hw242_3),(cb HB.out hw242_4),(cb HB.out hw242_5),(cb HB.out hw242_6),(cb HB.out hw244_0),(cb HB.out hw244_1),(cb HB.out hw244_2),(cb HB.out hw244_3),(cb HB.out hw244_4),(cb HB.out hw244_5),(cb HB.out hw244_6)⟩ (fun hHeld => ?_)
          clear hK K
          refine norm_ (a':=?_) ?_ ?_
          rotate_left
          ·show Act.put _ (some 18) _ = _
           simp only [Act.put,setIfInBounds_toArray,set_cons_zero,set_cons_succ,i64_w,i32_w]
           rfl
          refine pV_ 6 19 (bm 43 127) HT_.out ?_
          refine pV_ 7 20 (bm 43 255) HT_.out ?_
          refine pV_ 8 21 (bm 43 511) HT_.out ?_
          refine pV_ 9 22 (bm 43 1023) HT_.out ?_
          refine pV_ 10 23 (bm 43 2047) HT_.out ?_
          refine pV_ 11 24 (bm 43 4095) HT_.out ?_
          refine take_ (i:=12) (N:=some 25) (v:=?_) (a':=?_) (bm 43 8191) rfl rfl (take_ofW HT_.out HW_.out (by kernel_rfl)) (fun _ _ _ h => h) (Or.inl ⟨by rfl,?_⟩) hHeld ?_ ?_
          rotate_left
          ·rintro w' ⟨s0,s1,s2,s3,s4,s5,s6,s7,s8,s9,s10,s11,s12,s13,s14,s15,s16,s17,s18,s19,s20⟩
           go_simp
           with_reducible rfl
          rotate_left
          ·simp only [Act.put,setIfInBounds_toArray,set_cons_zero,set_cons_succ,i64_w,i32_w]
           rfl
          refine one_ (i:=13) (N:=some 26) (bm 43 16383) rfl rfl (one_of HT_.out (by kernel_rfl)) (by decide) (fun K hK => ?_)
          refine goes_ Tryz.func62 (by kernel_rfl) rfl #[.agg #[.int .i64 ((rd_T75 l0 x3_1).f1.f0),.int .i64 ((rd_T75 l0 x3_1).f1.f1),.int .i64 ((rd_T75 l0 x3_1).f1.f2),.int .i64 ((rd_T75 l0 x3_1).f1.f3),.int .i64 ((rd_T75 l0 x3_1).f1.f4),.int .i64 ((rd_T75 l0 x3_1).f1.f5)]] (by rfl) rfl rfl mA ?_
          with_reducible refine (spec_AggOK.calls ((rd_T75 l0 x3_1).f1.f0) ((rd_T75 l0 x3_1).f1.f1) ((rd_T75 l0 x3_1).f1.f2) ((rd_T75 l0 x3_1).f1.f3) ((rd_T75 l0 x3_1).f1.f4) ((rd_T75 l0 x3_1).f1.f5) true _ A8.out).mono ?_
          rintro e w12 ⟨rfl,hb⟩
          refine ⟨_,rfl,?_⟩
          have n0_ := Aside0.mk (below_step bA hb)
          clear HB
          have HB := n0_
          clear n0_
          (try clear hb)
          (try clear hb2)
          (try clear hk)
          (try clear hi)
          refine hK.out _ _ ⟨(cb HB.out hw240_0),(cb HB.out hw240_1),(cb HB.out hw240_2),(cb HB.out hw240_3),(cb HB.out hw240_4),(cb HB.out hw240_5),(cb HB.out hw240_6),(cb HB.out hw242_0),(cb HB.out hw242_1),(cb HB.out hw242_2),(cb HB.out hw242_3),(cb HB.out hw242_4),(cb HB.out hw242_5),(cb HB.out hw242_6),(cb HB.out hw244_0),(cb HB.out hw244_1),(cb HB.out hw244_2),(cb HB.out hw244_3),(cb HB.out hw244_4),(cb HB.out hw244_5),(cb HB.out hw244_6)⟩ (fun hHeld => ?_)
          clear hK K
          refine norm_ (a':=?_) ?_ ?_
          rotate_left
          ·show Act.put _ (some 26) _ = _
           simp only [Act.put,setIfInBounds_toArray,set_cons_zero,set_cons_succ,i64_w,i32_w]
           rfl
          refine pV_ 14 27 (bm 43 32767) HT_.out ?_
          refine pV_ 15 28 (bm 43 65535) HT_.out ?_
          refine pV_ 16 29 (bm 43 131071) HT_.out ?_
          refine pV_ 17 30 (bm 43 262143) HT_.out ?_
          refine pV_ 18 31 (bm 43 524287) HT_.out ?_
          refine pV_ 19 32 (bm 43 1048575) HT_.out ?_
          refine pV_ 20 33 (bm 43 2097151) HT_.out ?_
          refine pV_ 21 34 (bm 43 4194303) HT_.out ?_
          refine take_ (i:=22) (N:=some 35) (v:=?_) (a':=?_) (bm 43 8388607) rfl rfl (take_ofW HT_.out HW_.out (by kernel_rfl)) (fun _ _ _ h => h) (Or.inl ⟨by rfl,?_⟩) hHeld ?_ ?_
          rotate_left
          ·rintro w' ⟨s0,s1,s2,s3,s4,s5,s6,s7,s8,s9,s10,s11,s12,s13,s14,s15,s16,s17,s18,s19,s20⟩
           go_simp
           with_reducible rfl
          rotate_left
          ·simp only [Act.put,setIfInBounds_toArray,set_cons_zero,set_cons_succ,i64_w,i32_w]
           rfl
          refine pV_ 23 36 (bm 43 16777215) HT_.out ?_
          refine pV_ 24 37 (bm 43 33554431) HT_.out ?_
          refine pV_ 25 38 (bm 43 67108863) HT_.out ?_
          refine pU_ 26 39 (bm 43 134217727) HT_.out ?_
          refine pU_ 27 40 (bm 43 268435455) HT_.out ?_
          refine pU_ 28 41 (bm 43 536870911) HT_.out ?_
          refine pU_ 29 42 (bm 43 1073741823) HT_.out ?_
          refine pU_ 30 43 (bm 43 2147483647) HT_.out ?_
          refine pU_ 31 44 (bm 43 4294967295) HT_.out ?_
          refine pU_ 32 45 (bm 43 8589934591) HT_.out ?_
          refine pU_ 33 46 (bm 43 17179869183) HT_.out ?_
          refine pU_ 34 47 (bm 43 34359738367) HT_.out ?_
          refine pU_ 35 48 (bm 43 68719476735) HT_.out ?_
          refine pU_ 36 49 (bm 43 137438953471) HT_.out ?_
          refine pU_ 37 50 (bm 43 274877906943) HT_.out ?_
          refine pU_ 38 51 (bm 43 549755813887) HT_.out ?_
          refine pU_ 39 52 (bm 43 1099511627775) HT_.out ?_
          refine pU_ 40 53 (bm 43 2199023255551) HT_.out ?_
          refine pU_ 41 54 (bm 43 4398046511103) HT_.out ?_
          refine pV_ 42 55 (bm 43 8796093022207) HT_.out ?_
          refine done_ (done_of HT_.out (by kernel_rfl)) ?_
          try go_wp2
          go_meet
          case rel => exact ⟨_,(true),(by first | rfl | (simp; done) | (simp [*]; done)),H',⟨by have := HK1.out; first | omega | exact Nat.le_refl _⟩,⟨bA⟩⟩
         ·rw [if_neg c10] at H
          have c10b0 : (((rd_T75 l0 x3_1).f1.f0) == 0) = false := beq_eq_false_iff_ne.mpr c10
          have c10b1 : (((rd_T75 l0 x3_1).f1.f0) != 0) = true := bne_iff_ne.mpr c10
          by_cases c13 : x3_1 > 0
          ·rw [if_pos c13] at H
           have c13b0 : decide (0 < x3_1) = true := decide_eq_true c13
           clear c13
           obtain ⟨ji14,hji14⟩ : ∃ j_ : Int,(wrap64 (x3_1 - 1)) = j_ := ⟨_,rfl⟩
           replace H : (if 0 ≤ (ji14) then (if (ji14) < (l0.length : Int) then (spec_BucketsOK.j1 k1 l0 x3_1 (decide (((rd_T75 l0 (ji14)).f0) ≥ ((rd_T75 l0 x3_1).f0)))) else (none)) else (none)) = some r := by first | (rw [hji14] at H; exact H) | (simp only [hji14] at H ⊢; exact H)
           (try rw [hji14] at A6)
           (try rw [hji14] at A8)
           have hji14w : (IntKind.i64.wrap (x3_1 - 1)) = ji14 := (i64_w _).trans hji14
           by_cases c15 : 0 ≤ (ji14)
           ·rw [if_pos c15] at H
            have c15b0 : decide (0 ≤ (ji14)) = true := decide_eq_true c15
            clear c15
            by_cases c16 : (ji14) < (l0.length : Int)
            ·rw [if_pos c16] at H
             have c16b0 : decide ((ji14) < (l0.length : Int)) = true := decide_eq_true c16
             clear c16
             have H' := Aside0.mk H
             clear H
             try go_wp2
             have n0_ := Aside0.mk (below_drew1 HB.out)
             clear HB
             have HB := n0_
             clear n0_
             have p240 : 0 ≤ (x3_1 : Int) := od
             have q240 : x3_1 < (l0.length : Int) := od
             obtain ⟨ad240,e240,hx240_0,hx240_1,hx240_2,hx240_3,hx240_4,hx240_5,hx240_6⟩ := at_T75 HR0.out x3_1 p240 q240
             have hw240_6 := hx240_6
             have hw240_5 := hx240_5
             have hw240_4 := hx240_4
             have hw240_3 := hx240_3
             have hw240_2 := hx240_2
             have hw240_1 := hx240_1
             have hw240_0 := hx240_0
             cases e240
             replace hx240_0 := cb HB.out hx240_0
             replace hx240_1 := cb HB.out hx240_1
             replace hx240_2 := cb HB.out hx240_2
             replace hx240_3 := cb HB.out hx240_3
             replace hx240_4 := cb HB.out hx240_4
             replace hx240_5 := cb HB.out hx240_5
             replace hx240_6 := cb HB.out hx240_6
             replace p240 := eq_true p240
             replace q240 := eq_true q240
             have p242 : 0 ≤ (x3_1 : Int) := od
             have q242 : x3_1 < (l0.length : Int) := od
             obtain ⟨ad242,e242,hx242_0,hx242_1,hx242_2,hx242_3,hx242_4,hx242_5,hx242_6⟩ := at_T75 HR0.out x3_1 p242 q242
             have hw242_6 := hx242_6
             have hw242_5 := hx242_5
             have hw242_4 := hx242_4
             have hw242_3 := hx242_3
             have hw242_2 := hx242_2
             have hw242_1 := hx242_1
             have hw242_0 := hx242_0
             obtain rfl : ad240 = ad242 := (by injection e242)
             replace hx242_0 := cb HB.out hx242_0
             replace hx242_1 := cb HB.out hx242_1
             replace hx242_2 := cb HB.out hx242_2
             replace hx242_3 := cb HB.out hx242_3
             replace hx242_4 := cb HB.out hx242_4
             replace hx242_5 := cb HB.out hx242_5
             replace hx242_6 := cb HB.out hx242_6
             replace p242 := eq_true p242
             replace q242 := eq_true q242
             have p244 : 0 ≤ (x3_1 : Int) := od
             have q244 : x3_1 < (l0.length : Int) := od
             obtain ⟨ad244,e244,hx244_0,hx244_1,hx244_2,hx244_3,hx244_4,hx244_5,hx244_6⟩ := at_T75 HR0.out x3_1 p244 q244
             have hw244_6 := hx244_6
             have hw244_5 := hx244_5
             have hw244_4 := hx244_4
             have hw244_3 := hx244_3
             have hw244_2 := hx244_2
             have hw244_1 := hx244_1
             have hw244_0 := hx244_0
             obtain rfl : ad240 = ad244 := (by injection e244)
             replace hx244_0 := cb HB.out hx244_0
             replace hx244_1 := cb HB.out hx244_1
             replace hx244_2 := cb HB.out hx244_2
             replace hx244_3 := cb HB.out hx244_3
             replace hx244_4 := cb HB.out hx244_4
             replace hx244_5 := cb HB.out hx244_5
             replace hx244_6 := cb HB.out hx244_6
             replace p244 := eq_true p244
             replace q244 := eq_true q244
             have p245 : 0 ≤ ((ji14) : Int) := od
             have q245 : (ji14) < (l0.length : Int) := od
             obtain ⟨ad245,e245,hx245_0,hx245_1,hx245_2,hx245_3,hx245_4,hx245_5,hx245_6⟩ := at_T75 HR0.out (ji14) p245 q245
             have hw245_6 := hx245_6
             have hw245_5 := hx245_5
             have hw245_4 := hx245_4
             have hw245_3 := hx245_3
             have hw245_2 := hx245_2
             have hw245_1 := hx245_1
             have hw245_0 := hx245_0
             obtain rfl : ad240 = ad245 := (by injection e245)
             replace hx245_0 := cb HB.out hx245_0
             replace hx245_1 := cb HB.out hx245_1
             replace hx245_2 := cb HB.out hx245_2
             replace hx245_3 := cb HB.out hx245_3
             replace hx245_4 := cb HB.out hx245_4
             replace hx245_5 := cb HB.out hx245_5
             replace hx245_6 := cb HB.out hx245_6
             replace p245 := eq_true p245
             replace q245 := eq_true q245
             have p246 : 0 ≤ (x3_1 : Int) := od
             have q246 : x3_1 < (l0.length : Int) := od
             obtain ⟨ad246,e246,hx246_0,hx246_1,hx246_2,hx246_3,hx246_4,hx246_5,hx246_6⟩ := at_T75 HR0.out x3_1 p246 q246
             have hw246_6 := hx246_6
             have hw246_5 := hx246_5
             have hw246_4 := hx246_4
             have hw246_3 := hx246_3
             have hw246_2 := hx246_2
             have hw246_1 := hx246_1
             have hw246_0 := hx246_0
             obtain rfl : ad240 = ad246 := (by injection e246)
             replace hx246_0 := cb HB.out hx246_0
             replace hx246_1 := cb HB.out hx246_1
             replace hx246_2 := cb HB.out hx246_2
             replace hx246_3 := cb HB.out hx246_3
             replace hx246_4 := cb HB.out hx246_4
             replace hx246_5 := cb HB.out hx246_5
             replace hx246_6 := cb HB.out hx246_6
             replace p246 := eq_true p246
             replace q246 := eq_true q246
             refine start_ (n:=43) (S:=fun w' => w'.cell? (ad240.add ((x3_1).toNat * 7)) = some (.int .i64 ((rd_T75 l0 x3_1).f0)) ∧ w'.cell? ⟨(ad240.add ((x3_1).toNat * 7)).block,(ad240.add ((x3_1).toNat * 7)).off + 1,none⟩ = some (.int .i64 ((rd_T75 l0 x3_1).f1.f0)) ∧ w'.cell? ⟨(ad240.add ((x3_1).toNat * 7)).block,(ad240.add ((x3_1).toNat * 7)).off + 2,none⟩ = some (.int .i64 ((rd_T75 l0 x3_1).f1.f1)) ∧ w'.cell? ⟨(ad240.add ((x3_1).toNat * 7)).block,(ad240.add ((x3_1).toNat * 7)).off + 3,none⟩ = some (.int .i64 ((rd_T75 l0 x3_1).f1.f2)) ∧ w'.cell? ⟨(ad240.add ((x3_1).toNat * 7)).block,(ad240.add ((x3_1).toNat * 7)).off + 4,none⟩ = some (.int .i64 ((rd_T75 l0 x3_1).f1.f3)) ∧ w'.cell? ⟨(ad240.add ((x3_1).toNat * 7)).block,(ad240.add ((x3_1).toNat * 7)).off + 5,none⟩ = some (.int .i64 ((rd_T75 l0 x3_1).f1.f4)) ∧ w'.cell? ⟨(ad240.add ((x3_1).toNat * 7)).block,(ad240.add ((x3_1).toNat * 7)).off + 6,none⟩ = some (.int .i64 ((rd_T75 l0 x3_1).f1.f5)) ∧ w'.cell? (ad240.add ((x3_1).toNat * 7)) = some (.int .i64 ((rd_T75 l0 x3_1).f0)) ∧ w'.cell? ⟨(ad240.add ((x3_1).toNat * 7)).block,(ad240.add ((x3_1).toNat * 7)).off + 1,none⟩ = some (.int .i64 ((rd_T75 l0 x3_1).f1.f0)) ∧ w'.cell? ⟨(ad240.add ((x3_1).toNat * 7)).block,(ad240.add ((x3_1).toNat * 7)).off + 2,none⟩ = some (.int .i64 ((rd_T75 l0 x3_1).f1.f1)) ∧ w'.cell? ⟨(ad240.add ((x3_1).toNat * 7)).block,(ad240.add ((x3_1).toNat * 7)).off + 3,none⟩ = some (.int .i64 ((rd_T75 l0 x3_1).f1.f2)) ∧ w'.cell? ⟨(ad240.add ((x3_1).toNat * 7)).block,(ad240.add ((x3_1).toNat * 7)).off + 4,none⟩ = some (.int .i64 ((rd_T75 l0 x3_1).f1.f3)) ∧ w'.cell? ⟨(ad240.add ((x3_1).toNat * 7)).block,(ad240.add ((x3_1).toNat * 7)).off + 5,none⟩ = some (.int .i64 ((rd_T75 l0 x3_1).f1.f4)) ∧ w'.cell? ⟨(ad240.add ((x3_1).toNat * 7)).block,(ad240.add ((x3_1).toNat * 7)).off + 6,none⟩ = some (.int .i64 ((rd_T75 l0 x3_1).f1.f5)) ∧ w'.cell? (ad240.add ((x3_1).toNat * 7)) = some (.int .i64 ((rd_T75 l0 x3_1).f0)) ∧ w'.cell? ⟨(ad240.add ((x3_1).toNat * 7)).block,(ad240.add ((x3_1).toNat * 7)).off + 1,none⟩ = some (.int .i64 ((rd_T75 l0 x3_1).f1.f0)) ∧ w'.cell? ⟨(ad240.add ((x3_1).toNat * 7)).block,(ad240.add ((x3_1).toNat * 7)).off + 2,none⟩ = some (.int .i64 ((rd_T75 l0 x3_1).f1.f1)) ∧ w'.cell? ⟨(ad240.add ((x3_1).toNat * 7)).block,(ad240.add ((x3_1).toNat * 7)).off + 3,none⟩ = some (.int .i64 ((rd_T75 l0 x3_1).f1.f2)) ∧ w'.cell? ⟨(ad240.add ((x3_1).toNat * 7)).block,(ad240.add ((x3_1).toNat * 7)).off + 4,none⟩ = some (.int .i64 ((rd_T75 l0 x3_1).f1.f3)) ∧ w'.cell? ⟨(ad240.add ((x3_1).toNat * 7)).block,(ad240.add ((x3_1).toNat * 7)).off + 5,none⟩ = some (.int .i64 ((rd_T75 l0 x3_1).f1.f4)) ∧ w'.cell? ⟨(ad240.add ((x3_1).toNat * 7)).block,(ad240.add ((x3_1).toNat * 7)).off + 6,none⟩ = some (.int .i64 ((rd_T75 l0 x3_1).f1.f5)) ∧ w'.cell? (ad240.add (((ji14)).toNat * 7)) = some (.int .i64 ((rd_T75 l0 (ji14)).f0)) ∧ w'.cell? ⟨(ad240.add (((ji14)).toNat * 7)).block,(ad240.add (((ji14)).toNat * 7)).off + 1,none⟩ = some (.int .i64 ((rd_T75 l0 (ji14)).f1.f0)) ∧ w'.cell? ⟨(ad240.add (((ji14)).toNat * 7)).block,(ad240.add (((ji14)).toNat * 7)).off + 2,none⟩ = some (.int .i64 ((rd_T75 l0 (ji14)).f1.f1)) ∧ w'.cell? ⟨(ad240.add (((ji14)).toNat * 7)).block,(ad240.add (((ji14)).toNat * 7)).off + 3,none⟩ = some (.int .i64 ((rd_T75 l0 (ji14)).f1.f2)) ∧ w'.cell? ⟨(ad240.add (((ji14)).toNat * 7)).block,(ad240.add (((ji14)).toNat * 7)).off + 4,none⟩ = some (.int .i64 ((rd_T75 l0 (ji14)).f1.f3)) ∧ w'.cell? ⟨(ad240.add (((ji14)).toNat * 7)).block,(ad240.add (((ji14)).toNat * 7)).off + 5,none⟩ = some (.int .i64 ((rd_T75 l0 (ji14)).f1.f4)) ∧ w'.cell? ⟨(ad240.add (((ji14)).toNat * 7)).block,(ad240.add (((ji14)).toNat * 7)).off + 6,none⟩ = some (.int .i64 ((rd_T75 l0 (ji14)).f1.f5)) ∧ w'.cell? (ad240.add ((x3_1).toNat * 7)) = some (.int .i64 ((rd_T75 l0 x3_1).f0)) ∧ w'.cell? ⟨(ad240.add ((x3_1).toNat * 7)).block,(ad240.add ((x3_1).toNat * 7)).off + 1,none⟩ = some (.int .i64 ((rd_T75 l0 x3_1).f1.f0)) ∧ w'.cell? ⟨(ad240.add ((x3_1).toNat * 7)).block,(ad240.add ((x3_1).toNat * 7)).off + 2,none⟩ = some (.int .i64 ((rd_T75 l0 x3_1).f1.f1)) ∧ w'.cell? ⟨(ad240.add ((x3_1).toNat * 7)).block,(ad240.add ((x3_1).toNat * 7)).off + 3,none⟩ = some (.int .i64 ((rd_T75 l0 x3_1).f1.f2)) ∧ w'.cell? ⟨(ad240.add ((x3_1).toNat * 7)).block,(ad240.add ((x3_1).toNat * 7)).off + 4,none⟩ = some (.int .i64 ((rd_T75 l0 x3_1).f1.f3)) ∧ w'.cell? ⟨(ad240.add ((x3_1).toNat * 7)).block,(ad240.add ((x3_1).toNat * 7)).off + 5,none⟩ = some (.int .i64 ((rd_T75 l0 x3_1).f1.f4)) ∧ w'.cell? ⟨(ad240.add ((x3_1).toNat * 7)).block,(ad240.add ((x3_1).toNat * 7)).off + 6,none⟩ = some (.int .i64 ((rd_T75 l0 x3_1).f1.f5))) (ds := []) (bm 43 0) (by kernel_rfl) rfl rfl ⟨(cb HB.out hw240_0),(cb HB.out hw240_1),(cb HB.out hw240_2),(cb HB.out hw240_3),(cb HB.out hw240_4),(cb HB.out hw240_5),(cb HB.out hw240_6),(cb HB.out hw242_0),(cb HB.out hw242_1),(cb HB.out hw242_2),(cb HB.out hw242_3),(cb HB.out hw242_4),(cb HB.out hw242_5),(cb HB.out hw242_6),(cb HB.out hw244_0),(cb HB.out hw244_1),(cb HB.out hw244_2),(cb HB.out hw244_3),(cb HB.out hw244_4),(cb HB.out hw244_5),(cb HB.out hw244_6),(cb HB.out hw245_0),(cb HB.out hw245_1),(cb HB.out hw245_2),(cb HB.out hw245_3),(cb HB.out hw245_4),(cb HB.out hw245_5),(cb HB.out hw245_6),(cb HB.out hw246_0),(cb HB.out hw246_1),(cb HB.out hw246_2),(cb HB.out hw246_3),(cb HB.out hw246_4),(cb HB.out hw246_5),(cb HB.out hw246_6)⟩ (fun hHeld => ?_); refine with_tabW spec_BucketsOK.tab6 spec_BucketsOK.bits6 (fun HT_ HW_ => ?_)
             generalize wr.drew = w17 at HB hx240_0 hx240_1 hx240_2 hx240_3 hx240_4 hx240_5 hx240_6 hx242_0 hx242_1 hx242_2 hx242_3 hx242_4 hx242_5 hx242_6 hx244_0 hx244_1 hx244_2 hx244_3 hx244_4 hx244_5 hx244_6 hx245_0 hx245_1 hx245_2 hx245_3 hx245_4 hx245_5 hx245_6 hx246_0 hx246_1 hx246_2 hx246_3 hx246_4 hx246_5 hx246_6 hHeld ⊢
             refine pV_ 0 13 (bm 43 1) HT_.out ?_
             refine pV_ 1 14 (bm 43 3) HT_.out ?_
             refine pV_ 2 15 (bm 43 7) HT_.out ?_
             refine pV_ 3 16 (bm 43 15) HT_.out ?_
             refine take_ (i:=4) (N:=some 17) (v:=?_) (a':=?_) (bm 43 31) rfl rfl (take_ofW HT_.out HW_.out (by kernel_rfl)) (fun _ _ _ h => h) (Or.inl ⟨by rfl,?_⟩) hHeld ?_ ?_
             rotate_left
             ·rintro w' ⟨s0,s1,s2,s3,s4,s5,s6,s7,s8,s9,s10,s11,s12,s13,s14,s15,s16,s17,s18,s19,s20,s21,s22,s23,s24,s25,s26,s27,s28,s29,s30,s31,s32,s33,s34⟩
              go_simp
              with_reducible rfl
             rotate_left
             ·simp only [Act.put,setIfInBounds_toArray,set_cons_zero,set_cons_succ,i64_w,i32_w]
              rfl
             refine one_ (i:=5) (N:=some 18) (bm 43 63) rfl rfl (one_of HT_.out (by kernel_rfl)) (by decide) (fun K hK => ?_)
             refine goes_ Tryz.func18 (by kernel_rfl) rfl #[.int .i64 ((rd_T75 l0 x3_1).f0),.int .i64 0,.int .i64 99999] (by rfl) rfl rfl mA ?_
             with_reducible refine (spec_l01In.calls ((rd_T75 l0 x3_1).f0) 0 99999 true _ A6.out).mono ?_
             rintro e w' ⟨rfl,⟨nd,rfl⟩⟩
             refine ⟨_,rfl,?_⟩
             refine hK.out _ _ ⟨(cb HB.out hw240_0),(cb HB.out hw240_1),(cb HB.out hw240_2),(cb HB.out hw240_3),(cb HB.out hw240_4),(cb HB.out hw240_5),(cb HB.out hw240_6),(cb HB.out hw242_0),(cb HB.out hw242_1),(cb HB.out hw242_2),(cb HB.out hw242_3),(cb HB.out hw242_4),(cb HB.out hw242_5),(cb HB.out hw242_6),(cb HB.out hw244_0),(cb HB.out hw244_1),(cb HB.out hw244_2),(cb HB.out hw244_3),(cb HB.out hw244_4),(cb HB.out hw244_5),(cb HB.out hw244_6),(cb HB.out hw245_0),(cb HB.out hw245_1),(cb HB.out hw245_2),(cb HB.out hw245_3),(cb HB.out hw245_4),(cb HB.out hw245_5),(cb HB.out hw245_6),(cb HB.out hw246_0),(cb HB.out hw246_1),(cb HB.out hw246_2),(cb HB.out hw246_3),(cb HB.out hw246_4),(cb HB.out hw246_5),(cb HB.out hw246_6)⟩ (fun hHeld => ?_)
             clear hK K
             refine norm_ (a':=?_) ?_ ?_
             rotate_left
             ·show Act.put _ (some 18) _ = _
              simp only [Act.put,setIfInBounds_toArray,set_cons_zero,set_cons_succ,i64_w,i32_w]
              rfl
             refine pV_ 6 19 (bm 43 127) HT_.out ?_
             refine pV_ 7 20 (bm 43 255) HT_.out ?_
             refine pV_ 8 21 (bm 43 511) HT_.out ?_
             refine pV_ 9 22 (bm 43 1023) HT_.out ?_
             refine pV_ 10 23 (bm 43 2047) HT_.out ?_
             refine pV_ 11 24 (bm 43 4095) HT_.out ?_
             refine take_ (i:=12) (N:=some 25) (v:=?_) (a':=?_) (bm 43 8191) rfl rfl (take_ofW HT_.out HW_.out (by kernel_rfl)) (fun _ _ _ h => h) (Or.inl ⟨by rfl,?_⟩) hHeld ?_ ?_
             rotate_left
             ·rintro w' ⟨s0,s1,s2,s3,s4,s5,s6,s7,s8,s9,s10,s11,s12,s13,s14,s15,s16,s17,s18,s19,s20,s21,s22,s23,s24,s25,s26,s27,s28,s29,s30,s31,s32,s33,s34⟩
              go_simp
              with_reducible rfl
             rotate_left
             ·simp only [Act.put,setIfInBounds_toArray,set_cons_zero,set_cons_succ,i64_w,i32_w]
              rfl
             refine one_ (i:=13) (N:=some 26) (bm 43 16383) rfl rfl (one_of HT_.out (by kernel_rfl)) (by decide) (fun K hK => ?_)
             refine goes_ Tryz.func62 (by kernel_rfl) rfl #[.agg #[.int .i64 ((rd_T75 l0 x3_1).f1.f0),.int .i64 ((rd_T75 l0 x3_1).f1.f1),.int .i64 ((rd_T75 l0 x3_1).f1.f2),.int .i64 ((rd_T75 l0 x3_1).f1.f3),.int .i64 ((rd_T75 l0 x3_1).f1.f4),.int .i64 ((rd_T75 l0 x3_1).f1.f5)]] (by rfl) rfl rfl mA ?_
             with_reducible refine (spec_AggOK.calls ((rd_T75 l0 x3_1).f1.f0) ((rd_T75 l0 x3_1).f1.f1) ((rd_T75 l0 x3_1).f1.f2) ((rd_T75 l0 x3_1).f1.f3) ((rd_T75 l0 x3_1).f1.f4) ((rd_T75 l0 x3_1).f1.f5) true _ A8.out).mono ?_
             rintro e w18 ⟨rfl,hb⟩
             refine ⟨_,rfl,?_⟩
             have n0_ := Aside0.mk (below_step bA hb)
             clear HB
             have HB := n0_
             clear n0_
             (try clear hb)
             (try clear hb2)
             (try clear hk)
             (try clear hi)
             refine hK.out _ _ ⟨(cb HB.out hw240_0),(cb HB.out hw240_1),(cb HB.out hw240_2),(cb HB.out hw240_3),(cb HB.out hw240_4),(cb HB.out hw240_5),(cb HB.out hw240_6),(cb HB.out hw242_0),(cb HB.out hw242_1),(cb HB.out hw242_2),(cb HB.out hw242_3),(cb HB.out hw242_4),(cb HB.out hw242_5),(cb HB.out hw242_6),(cb HB.out hw244_0),(cb HB.out hw244_1),(cb HB.out hw244_2),(cb HB.out hw244_3),(cb HB.out hw244_4),(cb HB.out hw244_5),(cb HB.out hw244_6),(cb HB.out hw245_0),(cb HB.out hw245_1),(cb HB.out hw245_2),(cb HB.out hw245_3),(cb HB.out hw245_4),(cb HB.out hw245_5),(cb HB.out hw245_6),(cb HB.out hw246_0),(cb HB.out hw246_1),(cb HB.out hw246_2),(cb HB.out hw246_3),(cb HB.out hw246_4),(cb HB.out hw246_5),(cb HB.out hw246_6)⟩ (fun hHeld => ?_)
             clear hK K
             refine norm_ (a':=?_) ?_ ?_
             rotate_left
             ·show Act.put _ (some 26) _ = _
              simp only [Act.put,setIfInBounds_toArray,set_cons_zero,set_cons_succ,i64_w,i32_w]
              rfl
             refine pV_ 14 27 (bm 43 32767) HT_.out ?_
             refine pV_ 15 28 (bm 43 65535) HT_.out ?_
             refine pV_ 16 29 (bm 43 131071) HT_.out ?_
             refine pV_ 17 30 (bm 43 262143) HT_.out ?_
             refine pV_ 18 31 (bm 43 524287) HT_.out ?_
             refine pV_ 19 32 (bm 43 1048575) HT_.out ?_
             refine pV_ 20 33 (bm 43 2097151) HT_.out ?_
             refine pV_ 21 34 (bm 43 4194303) HT_.out ?_
             refine take_ (i:=22) (N:=some 35) (v:=?_) (a':=?_) (bm 43 8388607) rfl rfl (take_ofW HT_.out HW_.out (by kernel_rfl)) (fun _ _ _ h => h) (Or.inl ⟨by rfl,?_⟩) hHeld ?_ ?_
             rotate_left
             ·rintro w' ⟨s0,s1,s2,s3,s4,s5,s6,s7,s8,s9,s10,s11,s12,s13,s14,s15,s16,s17,s18,s19,s20,s21,s22,s23,s24,s25,s26,s27,s28,s29,s30,s31,s32,s33,s34⟩
              go_simp
              with_reducible rfl
             rotate_left
             ·simp only [Act.put,setIfInBounds_toArray,set_cons_zero,set_cons_succ,i64_w,i32_w]
              rfl
             refine pV_ 23 36 (bm 43 16777215) HT_.out ?_
             refine pV_ 24 37 (bm 43 33554431) HT_.out ?_
             refine pV_ 25 38 (bm 43 67108863) HT_.out ?_
             refine pV_ 26 39 (bm 43 134217727) HT_.out ?_
             refine pV_ 27 40 (bm 43 268435455) HT_.out ?_
             refine pV_ 28 41 (bm 43 536870911) HT_.out ?_
             refine pV_ 29 42 (bm 43 1073741823) HT_.out ?_
             refine pV_ 30 43 (bm 43 2147483647) HT_.out ?_
             refine pV_ 31 44 (bm 43 4294967295) HT_.out ?_
             refine pV_ 32 45 (bm 43 8589934591) HT_.out ?_
             refine pV_ 33 46 (bm 43 17179869183) HT_.out ?_
             refine pV_ 35 48 (bm 43 51539607551) HT_.out ?_
             refine pV_ 36 49 (bm 43 120259084287) HT_.out ?_
             refine pV_ 37 50 (bm 43 257698037759) HT_.out ?_
             refine pV_ 38 51 (bm 43 532575944703) HT_.out ?_
             refine take_ (i:=34) (N:=some 47) (v:=?_) (a':=?_) (bm 43 549755813887) rfl rfl (take_ofW HT_.out HW_.out (by kernel_rfl)) (fun _ _ _ h => h) (Or.inl ⟨by rfl,?_⟩) hHeld ?_ ?_
             rotate_left
             ·rintro w' ⟨s0,s1,s2,s3,s4,s5,s6,s7,s8,s9,s10,s11,s12,s13,s14,s15,s16,s17,s18,s19,s20,s21,s22,s23,s24,s25,s26,s27,s28,s29,s30,s31,s32,s33,s34⟩
              go_simp
              with_reducible rfl
             rotate_left
             ·simp only [Act.put,setIfInBounds_toArray,set_cons_zero,set_cons_succ,i64_w,i32_w]
              rfl
             refine take_ (i:=39) (N:=some 52) (v:=?_) (a':=?_) (bm 43 1099511627775) rfl rfl (take_ofW HT_.out HW_.out (by kernel_rfl)) (fun _ _ _ h => h) (Or.inl ⟨by rfl,?_⟩) hHeld ?_ ?_
             rotate_left
             ·rintro w' ⟨s0,s1,s2,s3,s4,s5,s6,s7,s8,s9,s10,s11,s12,s13,s14,s15,s16,s17,s18,s19,s20,s21,s22,s23,s24,s25,s26,s27,s28,s29,s30,s31,s32,s33,s34⟩
              go_simp
              with_reducible rfl
             rotate_left
             ·simp only [Act.put,setIfInBounds_toArray,set_cons_zero,set_cons_succ,i64_w,i32_w]
              rfl
             refine pV_ 40 53 (bm 43 2199023255551) HT_.out ?_
             refine pV_ 41 54 (bm 43 4398046511103) HT_.out ?_
             refine pV_ 42 55 (bm 43 8796093022207) HT_.out ?_
             refine done_ (done_of HT_.out (by kernel_rfl)) ?_
             try go_wp2
             go_meet
             case rel => exact ⟨_,(decide (((rd_T75 l0 (ji14)).f0) ≥ ((rd_T75 l0 x3_1).f0))),(by first | rfl | (simp; done) | (simp only [← hji14] <;> (first | rfl | simp)) | (simp [*]; done)),H',⟨by have := HK1.out; first | omega | exact Nat.le_refl _⟩,⟨bA⟩⟩
            ·rw [if_neg c16] at H
             exact absurd H (by simp)
           ·rw [if_neg c15] at H
            exact absurd H (by simp)
          ·rw [if_neg c13] at H
           have c13b0 : decide (0 < x3_1) = false := decide_eq_false c13
           clear c13
           have H' := Aside0.mk H
           clear H
           try go_wp2
           have n0_ := Aside0.mk (below_drew1 HB.out)
           clear HB
           have HB := n0_
           clear n0_
           have p240 : 0 ≤ (x3_1 : Int) := od
           have q240 : x3_1 < (l0.length : Int) := od
           obtain ⟨ad240,e240,hx240_0,hx240_1,hx240_2,hx240_3,hx240_4,hx240_5,hx240_6⟩ := at_T75 HR0.out x3_1 p240 q240
           have hw240_6 := hx240_6
           have hw240_5 := hx240_5
           have hw240_4 := hx240_4
           have hw240_3 := hx240_3
           have hw240_2 := hx240_2
           have hw240_1 := hx240_1
           have hw240_0 := hx240_0
           cases e240
           replace hx240_0 := cb HB.out hx240_0
           replace hx240_1 := cb HB.out hx240_1
           replace hx240_2 := cb HB.out hx240_2
           replace hx240_3 := cb HB.out hx240_3
           replace hx240_4 := cb HB.out hx240_4
           replace hx240_5 := cb HB.out hx240_5
           replace hx240_6 := cb HB.out hx240_6
           replace p240 := eq_true p240
           replace q240 := eq_true q240
           have p242 : 0 ≤ (x3_1 : Int) := od
           have q242 : x3_1 < (l0.length : Int) := od
           obtain ⟨ad242,e242,hx242_0,hx242_1,hx242_2,hx242_3,hx242_4,hx242_5,hx242_6⟩ := at_T75 HR0.out x3_1 p242 q242
           have hw242_6 := hx242_6
           have hw242_5 := hx242_5
           have hw242_4 := hx242_4
           have hw242_3 := hx242_3
           have hw242_2 := hx242_2
           have hw242_1 := hx242_1
           have hw242_0 := hx242_0
           obtain rfl : ad240 = ad242 := (by injection e242)
           replace hx242_0 := cb HB.out hx242_0
           replace hx242_1 := cb HB.out hx242_1
           replace hx242_2 := cb HB.out hx242_2
           replace hx242_3 := cb HB.out hx242_3
           replace hx242_4 := cb HB.out hx242_4
           replace hx242_5 := cb HB.out hx242_5
           replace hx242_6 := cb HB.out hx242_6
           replace p242 := eq_true p242
           replace q242 := eq_true q242
           have p244 : 0 ≤ (x3_1 : Int) := od
           have q244 : x3_1 < (l0.length : Int) := od
           obtain ⟨ad244,e244,hx244_0,hx244_1,hx244_2,hx244_3,hx244_4,hx244_5,hx244_6⟩ := at_T75 HR0.out x3_1 p244 q244
           have hw244_6 := hx244_6
           have hw244_5 := hx244_5
           have hw244_4 := hx244_4
           have hw244_3 := hx244_3
           have hw244_2 := hx244_2
           have hw244_1 := hx244_1
           have hw244_0 := hx244_0
           obtain rfl : ad240 = ad244 := (by injection e244)
           replace hx244_0 := cb HB.out hx244_0
           replace hx244_1 := cb HB.out hx244_1
           replace hx244_2 := cb HB.out hx244_2
           replace hx244_3 := cb HB.out hx244_3
           replace hx244_4 := cb HB.out hx244_4
           replace hx244_5 := cb HB.out hx244_5
           replace hx244_6 := cb HB.out hx244_6
           replace p244 := eq_true p244
           replace q244 := eq_true q244
           refine start_ (n:=43) (S:=fun w' => w'.cell? (ad240.add ((x3_1).toNat * 7)) = some (.int .i64 ((rd_T75 l0 x3_1).f0)) ∧ w'.cell? ⟨(ad240.add ((x3_1).toNat * 7)).block,(ad240.add ((x3_1).toNat * 7)).off + 1,none⟩ = some (.int .i64 ((rd_T75 l0 x3_1).f1.f0)) ∧ w'.cell? ⟨(ad240.add ((x3_1).toNat * 7)).block,(ad240.add ((x3_1).toNat * 7)).off + 2,none⟩ = some (.int .i64 ((rd_T75 l0 x3_1).f1.f1)) ∧ w'.cell? ⟨(ad240.add ((x3_1).toNat * 7)).block,(ad240.add ((x3_1).toNat * 7)).off + 3,none⟩ = some (.int .i64 ((rd_T75 l0 x3_1).f1.f2)) ∧ w'.cell? ⟨(ad240.add ((x3_1).toNat * 7)).block,(ad240.add ((x3_1).toNat * 7)).off + 4,none⟩ = some (.int .i64 ((rd_T75 l0 x3_1).f1.f3)) ∧ w'.cell? ⟨(ad240.add ((x3_1).toNat * 7)).block,(ad240.add ((x3_1).toNat * 7)).off + 5,none⟩ = some (.int .i64 ((rd_T75 l0 x3_1).f1.f4)) ∧ w'.cell? ⟨(ad240.add ((x3_1).toNat * 7)).block,(ad240.add ((x3_1).toNat * 7)).off + 6,none⟩ = some (.int .i64 ((rd_T75 l0 x3_1).f1.f5)) ∧ w'.cell? (ad240.add ((x3_1).toNat * 7)) = some (.int .i64 ((rd_T75 l0 x3_1).f0)) ∧ w'.cell? ⟨(ad240.add ((x3_1).toNat * 7)).block,(ad240.add ((x3_1).toNat * 7)).off + 1,none⟩ = some (.int .i64 ((rd_T75 l0 x3_1).f1.f0)) ∧ w'.cell? ⟨(ad240.add ((x3_1).toNat * 7)).block,(ad240.add ((x3_1).toNat * 7)).off + 2,none⟩ = some (.int .i64 ((rd_T75 l0 x3_1).f1.f1)) ∧ w'.cell? ⟨(ad240.add ((x3_1).toNat * 7)).block,(ad240.add ((x3_1).toNat * 7)).off + 3,none⟩ = some (.int .i64 ((rd_T75 l0 x3_1).f1.f2)) ∧ w'.cell? ⟨(ad240.add ((x3_1).toNat * 7)).block,(ad240.add ((x3_1).toNat * 7)).off + 4,none⟩ = some (.int .i64 ((rd_T75 l0 x3_1).f1.f3)) ∧ w'.cell? ⟨(ad240.add ((x3_1).toNat * 7)).block,(ad240.add ((x3_1).toNat * 7)).off + 5,none⟩ = some (.int .i64 ((rd_T75 l0 x3_1).f1.f4)) ∧ w'.cell? ⟨(ad240.add ((x3_1).toNat * 7)).block,(ad240.add ((x3_1).toNat * 7)).off + 6,none⟩ = some (.int .i64 ((rd_T75 l0 x3_1).f1.f5)) ∧ w'.cell? (ad240.add ((x3_1).toNat * 7)) = some (.int .i64 ((rd_T75 l0 x3_1).f0)) ∧ w'.cell? ⟨(ad240.add ((x3_1).toNat * 7)).block,(ad240.add ((x3_1).toNat * 7)).off + 1,none⟩ = some (.int .i64 ((rd_T75 l0 x3_1).f1.f0)) ∧ w'.cell? ⟨(ad240.add ((x3_1).toNat * 7)).block,(ad240.add ((x3_1).toNat * 7)).off + 2,none⟩ = some (.int .i64 ((rd_T75 l0 x3_1).f1.f1)) ∧ w'.cell? ⟨(ad240.add ((x3_1).toNat * 7)).block,(ad240.add ((x3_1).toNat * 7)).off + 3,none⟩ = some (.int .i64 ((rd_T75 l0 x3_1).f1.f2)) ∧ w'.cell? ⟨(ad240.add ((x3_1).toNat * 7)).block,(ad240.add ((x3_1).toNat * 7)).off + 4,none⟩ = some (.int .i64 ((rd_T75 l0 x3_1).f1.f3)) ∧ w'.cell? ⟨(ad240.add ((x3_1).toNat * 7)).block,(ad240.add ((x3_1).toNat * 7)).off + 5,none⟩ = some (.int .i64 ((rd_T75 l0 x3_1).f1.f4)) ∧ w'.cell? ⟨(ad240.add ((x3_1).toNat * 7)).block,(ad240.add ((x3_1).toNat * 7)).off + 6,none⟩ = some (.int .i64 ((rd_T75 l0 x3_1).f1.f5))) (ds := []) (bm 43 0) (by kernel_rfl) rfl rfl ⟨(cb HB.out hw240_0),(cb HB.out hw240_1),(cb HB.out hw240_2),(cb HB.out hw240_3),(cb HB.out hw240_4),(cb HB.out hw240_5),(cb HB.out hw240_6),(cb HB.out hw242_0),(cb HB.out hw242_1),(cb HB.out hw242_2),(cb HB.out hw242_3),(cb HB.out hw242_4),(cb HB.out hw242_5),(cb HB.out hw242_6),(cb HB.out hw244_0),(cb HB.out hw244_1),(cb HB.out hw244_2),(cb HB.out hw244_3),(cb HB.out hw244_4),(cb HB.out hw244_5),(cb HB.out hw244_6)⟩ (fun hHeld => ?_); refine with_tabW spec_BucketsOK.tab6 spec_BucketsOK.bits6 (fun HT_ HW_ => ?_)
           generalize wr.drew = w19 at HB hx240_0 hx240_1 hx240_2 hx240_3 hx240_4 hx240_5 hx240_6 hx242_0 hx242_1 hx242_2 hx242_3 hx242_4 hx242_5 hx242_6 hx244_0 hx244_1 hx244_2 hx244_3 hx244_4 hx244_5 hx244_6 hHeld ⊢
           refine pV_ 0 13 (bm 43 1) HT_.out ?_
           refine pV_ 1 14 (bm 43 3) HT_.out ?_
           refine pV_ 2 15 (bm 43 7) HT_.out ?_
           refine pV_ 3 16 (bm 43 15) HT_.out ?_
           refine take_ (i:=4) (N:=some 17) (v:=?_) (a':=?_) (bm 43 31) rfl rfl (take_ofW HT_.out HW_.out (by kernel_rfl)) (fun _ _ _ h => h) (Or.inl ⟨by rfl,?_⟩) hHeld ?_ ?_
           rotate_left
           ·rintro w' ⟨s0,s1,s2,s3,s4,s5,s6,s7,s8,s9,s10,s11,s12,s13,s14,s15,s16,s17,s18,s19,s20⟩
            go_simp
            with_reducible rfl
           rotate_left
           ·simp only [Act.put,setIfInBounds_toArray,set_cons_zero,set_cons_succ,i64_w,i32_w]
            rfl
           refine one_ (i:=5) (N:=some 18) (bm 43 63) rfl rfl (one_of HT_.out (by kernel_rfl)) (by decide) (fun K hK => ?_)
           refine goes_ Tryz.func18 (by kernel_rfl) rfl #[.int .i64 ((rd_T75 l0 x3_1).f0),.int .i64 0,.int .i64 99999] (by rfl) rfl rfl mA ?_
           with_reducible refine (spec_l01In.calls ((rd_T75 l0 x3_1).f0) 0 99999 true _ A6.out).mono ?_
           rintro e w' ⟨rfl,⟨nd,rfl⟩⟩
           refine ⟨_,rfl,?_⟩
           refine hK.out _ _ ⟨(cb HB.out hw240_0),(cb HB.out hw240_1),(cb HB.out hw240_2),(cb HB.out hw240_3),(cb HB.out hw240_4),(cb HB.out hw240_5),(cb HB.out hw240_6),(cb HB.out hw242_0),(cb HB.out hw242_1),(cb HB.out hw242_2),(cb HB.out hw242_3),(cb HB.out hw242_4),(cb HB.out hw242_5),(cb HB.out hw242_6),(cb HB.out hw244_0),(cb HB.out hw244_1),(cb HB.out hw244_2),(cb HB.out hw244_3),(cb HB.out hw244_4),(cb HB.out hw244_5),(cb HB.out hw244_6)⟩ (fun hHeld => ?_)
           clear hK K
           refine norm_ (a':=?_) ?_ ?_
           rotate_left
           ·show Act.put _ (some 18) _ = _
            simp only [Act.put,setIfInBounds_toArray,set_cons_zero,set_cons_succ,i64_w,i32_w]
            rfl
           refine pV_ 6 19 (bm 43 127) HT_.out ?_
           refine pV_ 7 20 (bm 43 255) HT_.out ?_
           refine pV_ 8 21 (bm 43 511) HT_.out ?_
           refine pV_ 9 22 (bm 43 1023) HT_.out ?_
           refine pV_ 10 23 (bm 43 2047) HT_.out ?_
           refine pV_ 11 24 (bm 43 4095) HT_.out ?_
           refine take_ (i:=12) (N:=some 25) (v:=?_) (a':=?_) (bm 43 8191) rfl rfl (take_ofW HT_.out HW_.out (by kernel_rfl)) (fun _ _ _ h => h) (Or.inl ⟨by rfl,?_⟩) hHeld ?_ ?_
           rotate_left
           ·rintro w' ⟨s0,s1,s2,s3,s4,s5,s6,s7,s8,s9,s10,s11,s12,s13,s14,s15,s16,s17,s18,s19,s20⟩
            go_simp
            with_reducible rfl
           rotate_left
           ·simp only [Act.put,setIfInBounds_toArray,set_cons_zero,set_cons_succ,i64_w,i32_w]
            rfl
           refine one_ (i:=13) (N:=some 26) (bm 43 16383) rfl rfl (one_of HT_.out (by kernel_rfl)) (by decide) (fun K hK => ?_)
           refine goes_ Tryz.func62 (by kernel_rfl) rfl #[.agg #[.int .i64 ((rd_T75 l0 x3_1).f1.f0),.int .i64 ((rd_T75 l0 x3_1).f1.f1),.int .i64 ((rd_T75 l0 x3_1).f1.f2),.int .i64 ((rd_T75 l0 x3_1).f1.f3),.int .i64 ((rd_T75 l0 x3_1).f1.f4),.int .i64 ((rd_T75 l0 x3_1).f1.f5)]] (by rfl) rfl rfl mA ?_
           with_reducible refine (spec_AggOK.calls ((rd_T75 l0 x3_1).f1.f0) ((rd_T75 l0 x3_1).f1.f1) ((rd_T75 l0 x3_1).f1.f2) ((rd_T75 l0 x3_1).f1.f3) ((rd_T75 l0 x3_1).f1.f4) ((rd_T75 l0 x3_1).f1.f5) true _ A8.out).mono ?_
           rintro e w20 ⟨rfl,hb⟩
           refine ⟨_,rfl,?_⟩
           have n0_ := Aside0.mk (below_step bA hb)
           clear HB
           have HB := n0_
           clear n0_
           (try clear hb)
           (try clear hb2)
           (try clear hk)
           (try clear hi)
           refine hK.out _ _ ⟨(cb HB.out hw240_0),(cb HB.out hw240_1),(cb HB.out hw240_2),(cb HB.out hw240_3),(cb HB.out hw240_4),(cb HB.out hw240_5),(cb HB.out hw240_6),(cb HB.out hw242_0),(cb HB.out hw242_1),(cb HB.out hw242_2),(cb HB.out hw242_3),(cb HB.out hw242_4),(cb HB.out hw242_5),(cb HB.out hw242_6),(cb HB.out hw244_0),(cb HB.out hw244_1),(cb HB.out hw244_2),(cb HB.out hw244_3),(cb HB.out hw244_4),(cb HB.out hw244_5),(cb HB.out hw244_6)⟩ (fun hHeld => ?_)
           clear hK K
           refine norm_ (a':=?_) ?_ ?_
           rotate_left
           ·show Act.put _ (some 26) _ = _
            simp only [Act.put,setIfInBounds_toArray,set_cons_zero,set_cons_succ,i64_w,i32_w]
            rfl
           refine pV_ 14 27 (bm 43 32767) HT_.out ?_
           refine pV_ 15 28 (bm 43 65535) HT_.out ?_
           refine pV_ 16 29 (bm 43 131071) HT_.out ?_
           refine pV_ 17 30 (bm 43 262143) HT_.out ?_
           refine pV_ 18 31 (bm 43 524287) HT_.out ?_
           refine pV_ 19 32 (bm 43 1048575) HT_.out ?_
           refine pV_ 20 33 (bm 43 2097151) HT_.out ?_
           refine pV_ 21 34 (bm 43 4194303) HT_.out ?_
           refine take_ (i:=22) (N:=some 35) (v:=?_) (a':=?_) (bm 43 8388607) rfl rfl (take_ofW HT_.out HW_.out (by kernel_rfl)) (fun _ _ _ h => h) (Or.inl ⟨by rfl,?_⟩) hHeld ?_ ?_
           rotate_left
           ·rintro w' ⟨s0,s1,s2,s3,s4,s5,s6,s7,s8,s9,s10,s11,s12,s13,s14,s15,s16,s17,s18,s19,s20⟩
            go_simp
            with_reducible rfl
           rotate_left
           ·simp only [Act.put,setIfInBounds_toArray,set_cons_zero,set_cons_succ,i64_w,i32_w]
            rfl
           refine pV_ 23 36 (bm 43 16777215) HT_.out ?_
           refine pV_ 24 37 (bm 43 33554431) HT_.out ?_
           refine pV_ 25 38 (bm 43 67108863) HT_.out ?_
           refine pV_ 26 39 (bm 43 134217727) HT_.out ?_
           refine pV_ 27 40 (bm 43 268435455) HT_.out ?_
           refine pV_ 28 41 (bm 43 536870911) HT_.out ?_
           refine pU_ 29 42 (bm 43 1073741823) HT_.out ?_
           refine pU_ 30 43 (bm 43 2147483647) HT_.out ?_
           refine pU_ 31 44 (bm 43 4294967295) HT_.out ?_
           refine pU_ 32 45 (bm 43 8589934591) HT_.out ?_
           refine pU_ 33 46 (bm 43 17179869183) HT_.out ?_
           refine pU_ 34 47 (bm 43 34359738367) HT_.out ?_
           refine pU_ 35 48 (bm 43 68719476735) HT_.out ?_
           refine pU_ 36 49 (bm 43 137438953471) HT_.out ?_
           refine pU_ 37 50 (bm 43 274877906943) HT_.out ?_
           refine pU_ 38 51 (bm 43 549755813887) HT_.out ?_
           refine pU_ 39 52 (bm 43 1099511627775) HT_.out ?_
           refine pU_ 40 53 (bm 43 2199023255551) HT_.out ?_
           refine pV_ 41 54 (bm 43 4398046511103) HT_.out ?_
           refine pV_ 42 55 (bm 43 8796093022207) HT_.out ?_
           refine done_ (done_of HT_.out (by kernel_rfl)) ?_
           try go_wp2
           go_meet
           case rel => exact ⟨_,(false),(by first | rfl | (simp; done) | (simp [*]; done)),H',⟨by have := HK1.out; first | omega | exact Nat.le_refl _⟩,⟨bA⟩⟩
        ·replace c9 := Bool.eq_false_iff.mpr c9
         subst c9
         rw [if_neg (show ¬ (false = true) by decide)] at H
         have H' := Aside0.mk H
         clear H
         try go_wp2
         have n0_ := Aside0.mk (below_drew1 HB.out)
         clear HB
         have HB := n0_
         clear n0_
         have p240 : 0 ≤ (x3_1 : Int) := od
         have q240 : x3_1 < (l0.length : Int) := od
         obtain ⟨ad240,e240,hx240_0,hx240_1,hx240_2,hx240_3,hx240_4,hx240_5,hx240_6⟩ := at_T75 HR0.out x3_1 p240 q240
         have hw240_6 := hx240_6
         have hw240_5 := hx240_5
         have hw240_4 := hx240_4
         have hw240_3 := hx240_3
         have hw240_2 := hx240_2
         have hw240_1 := hx240_1
         have hw240_0 := hx240_0
         cases e240
         replace hx240_0 := cb HB.out hx240_0
         replace hx240_1 := cb HB.out hx240_1
         replace hx240_2 := cb HB.out hx240_2
         replace hx240_3 := cb HB.out hx240_3
         replace hx240_4 := cb HB.out hx240_4
         replace hx240_5 := cb HB.out hx240_5
         replace hx240_6 := cb HB.out hx240_6
         replace p240 := eq_true p240
         replace q240 := eq_true q240
         have p242 : 0 ≤ (x3_1 : Int) := od
         have q242 : x3_1 < (l0.length : Int) := od
         obtain ⟨ad242,e242,hx242_0,hx242_1,hx242_2,hx242_3,hx242_4,hx242_5,hx242_6⟩ := at_T75 HR0.out x3_1 p242 q242
         have hw242_6 := hx242_6
         have hw242_5 := hx242_5
         have hw242_4 := hx242_4
         have hw242_3 := hx242_3
         have hw242_2 := hx242_2
         have hw242_1 := hx242_1
         have hw242_0 := hx242_0
         obtain rfl : ad240 = ad242 := (by injection e242)
         replace hx242_0 := cb HB.out hx242_0
         replace hx242_1 := cb HB.out hx242_1
         replace hx242_2 := cb HB.out hx242_2
         replace hx242_3 := cb HB.out hx242_3
         replace hx242_4 := cb HB.out hx242_4
         replace hx242_5 := cb HB.out hx242_5
         replace hx242_6 := cb HB.out hx242_6
         replace p242 := eq_true p242
         replace q242 := eq_true q242
         refine start_ (n:=43) (S:=fun w' => w'.cell? (ad240.add ((x3_1).toNat * 7)) = some (.int .i64 ((rd_T75 l0 x3_1).f0)) ∧ w'.cell? ⟨(ad240.add ((x3_1).toNat * 7)).block,(ad240.add ((x3_1).toNat * 7)).off + 1,none⟩ = some (.int .i64 ((rd_T75 l0 x3_1).f1.f0)) ∧ w'.cell? ⟨(ad240.add ((x3_1).toNat * 7)).block,(ad240.add ((x3_1).toNat * 7)).off + 2,none⟩ = some (.int .i64 ((rd_T75 l0 x3_1).f1.f1)) ∧ w'.cell? ⟨(ad240.add ((x3_1).toNat * 7)).block,(ad240.add ((x3_1).toNat * 7)).off + 3,none⟩ = some (.int .i64 ((rd_T75 l0 x3_1).f1.f2)) ∧ w'.cell? ⟨(ad240.add ((x3_1).toNat * 7)).block,(ad240.add ((x3_1).toNat * 7)).off + 4,none⟩ = some (.int .i64 ((rd_T75 l0 x3_1).f1.f3)) ∧ w'.cell? ⟨(ad240.add ((x3_1).toNat * 7)).block,(ad240.add ((x3_1).toNat * 7)).off + 5,none⟩ = some (.int .i64 ((rd_T75 l0 x3_1).f1.f4)) ∧ w'.cell? ⟨(ad240.add ((x3_1).toNat * 7)).block,(ad240.add ((x3_1).toNat * 7)).off + 6,none⟩ = some (.int .i64 ((rd_T75 l0 x3_1).f1.f5)) ∧ w'.cell? (ad240.add ((x3_1).toNat * 7)) = some (.int .i64 ((rd_T75 l0 x3_1).f0)) ∧ w'.cell? ⟨(ad240.add ((x3_1).toNat * 7)).block,(ad240.add ((x3_1).toNat * 7)).off + 1,none⟩ = some (.int .i64 ((rd_T75 l0 x3_1).f1.f0)) ∧ w'.cell? ⟨(ad240.add ((x3_1).toNat * 7)).block,(ad240.add ((x3_1).toNat * 7)).off + 2,none⟩ = some (.int .i64 ((rd_T75 l0 x3_1).f1.f1)) ∧ w'.cell? ⟨(ad240.add ((x3_1).toNat * 7)).block,(ad240.add ((x3_1).toNat * 7)).off + 3,none⟩ = some (.int .i64 ((rd_T75 l0 x3_1).f1.f2)) ∧ w'.cell? ⟨(ad240.add ((x3_1).toNat * 7)).block,(ad240.add ((x3_1).toNat * 7)).off + 4,none⟩ = some (.int .i64 ((rd_T75 l0 x3_1).f1.f3)) ∧ w'.cell? ⟨(ad240.add ((x3_1).toNat * 7)).block,(ad240.add ((x3_1).toNat * 7)).off + 5,none⟩ = some (.int .i64 ((rd_T75 l0 x3_1).f1.f4)) ∧ w'.cell? ⟨(ad240.add ((x3_1).toNat * 7)).block,(ad240.add ((x3_1).toNat * 7)).off + 6,none⟩ = some (.int .i64 ((rd_T75 l0 x3_1).f1.f5))) (ds := []) (bm 43 0) (by kernel_rfl) rfl rfl ⟨(cb HB.out hw240_0),(cb HB.out hw240_1),(cb HB.out hw240_2),(cb HB.out hw240_3),(cb HB.out hw240_4),(cb HB.out hw240_5),(cb HB.out hw240_6),(cb HB.out hw242_0),(cb HB.out hw242_1),(cb HB.out hw242_2),(cb HB.out hw242_3),(cb HB.out hw242_4),(cb HB.out hw242_5),(cb HB.out hw242_6)⟩ (fun hHeld => ?_); refine with_tabW spec_BucketsOK.tab6 spec_BucketsOK.bits6 (fun HT_ HW_ => ?_)
         generalize wr.drew = w21 at HB hx240_0 hx240_1 hx240_2 hx240_3 hx240_4 hx240_5 hx240_6 hx242_0 hx242_1 hx242_2 hx242_3 hx242_4 hx242_5 hx242_6 hHeld ⊢
         refine pV_ 0 13 (bm 43 1) HT_.out ?_
         refine pV_ 1 14 (bm 43 3) HT_.out ?_
         refine pV_ 2 15 (bm 43 7) HT_.out ?_
         refine pV_ 3 16 (bm 43 15) HT_.out ?_
         refine take_ (i:=4) (N:=some 17) (v:=?_) (a':=?_) (bm 43 31) rfl rfl (take_ofW HT_.out HW_.out (by kernel_rfl)) (fun _ _ _ h => h) (Or.inl ⟨by rfl,?_⟩) hHeld ?_ ?_
         rotate_left
         ·rintro w' ⟨s0,s1,s2,s3,s4,s5,s6,s7,s8,s9,s10,s11,s12,s13⟩
          go_simp
          with_reducible rfl
         rotate_left
         ·simp only [Act.put,setIfInBounds_toArray,set_cons_zero,set_cons_succ,i64_w,i32_w]
          rfl
         refine one_ (i:=5) (N:=some 18) (bm 43 63) rfl rfl (one_of HT_.out (by kernel_rfl)) (by decide) (fun K hK => ?_)
         refine goes_ Tryz.func18 (by kernel_rfl) rfl #[.int .i64 ((rd_T75 l0 x3_1).f0),.int .i64 0,.int .i64 99999] (by rfl) rfl rfl mA ?_
         with_reducible refine (spec_l01In.calls ((rd_T75 l0 x3_1).f0) 0 99999 true _ A6.out).mono ?_
         rintro e w' ⟨rfl,⟨nd,rfl⟩⟩
         refine ⟨_,rfl,?_⟩
         refine hK.out _ _ ⟨(cb HB.out hw240_0),(cb HB.out hw240_1),(cb HB.out hw240_2),(cb HB.out hw240_3),(cb HB.out hw240_4),(cb HB.out hw240_5),(cb HB.out hw240_6),(cb HB.out hw242_0),(cb HB.out hw242_1),(cb HB.out hw242_2),(cb HB.out hw242_3),(cb HB.out hw242_4),(cb HB.out hw242_5),(cb HB.out hw242_6)⟩ (fun hHeld => ?_)
         clear hK K
         refine norm_ (a':=?_) ?_ ?_
         rotate_left
         ·show Act.put _ (some 18) _ = _
          simp only [Act.put,setIfInBounds_toArray,set_cons_zero,set_cons_succ,i64_w,i32_w]
          rfl
         refine pV_ 6 19 (bm 43 127) HT_.out ?_
         refine pV_ 7 20 (bm 43 255) HT_.out ?_
         refine pV_ 8 21 (bm 43 511) HT_.out ?_
         refine pV_ 9 22 (bm 43 1023) HT_.out ?_
         refine pV_ 10 23 (bm 43 2047) HT_.out ?_
         refine pV_ 11 24 (bm 43 4095) HT_.out ?_
         refine take_ (i:=12) (N:=some 25) (v:=?_) (a':=?_) (bm 43 8191) rfl rfl (take_ofW HT_.out HW_.out (by kernel_rfl)) (fun _ _ _ h => h) (Or.inl ⟨by rfl,?_⟩) hHeld ?_ ?_
         rotate_left
         ·rintro w' ⟨s0,s1,s2,s3,s4,s5,s6,s7,s8,s9,s10,s11,s12,s13⟩
          go_simp
          with_reducible rfl
         rotate_left
         ·simp only [Act.put,setIfInBounds_toArray,set_cons_zero,set_cons_succ,i64_w,i32_w]
          rfl
         refine one_ (i:=13) (N:=some 26) (bm 43 16383) rfl rfl (one_of HT_.out (by kernel_rfl)) (by decide) (fun K hK => ?_)
         refine goes_ Tryz.func62 (by kernel_rfl) rfl #[.agg #[.int .i64 ((rd_T75 l0 x3_1).f1.f0),.int .i64 ((rd_T75 l0 x3_1).f1.f1),.int .i64 ((rd_T75 l0 x3_1).f1.f2),.int .i64 ((rd_T75 l0 x3_1).f1.f3),.int .i64 ((rd_T75 l0 x3_1).f1.f4),.int .i64 ((rd_T75 l0 x3_1).f1.f5)]] (by rfl) rfl rfl mA ?_
         with_reducible refine (spec_AggOK.calls ((rd_T75 l0 x3_1).f1.f0) ((rd_T75 l0 x3_1).f1.f1) ((rd_T75 l0 x3_1).f1.f2) ((rd_T75 l0 x3_1).f1.f3) ((rd_T75 l0 x3_1).f1.f4) ((rd_T75 l0 x3_1).f1.f5) false _ A8.out).mono ?_
         rintro e w22 ⟨rfl,hb⟩
         refine ⟨_,rfl,?_⟩
         have n0_ := Aside0.mk (below_step bA hb)
         clear HB
         have HB := n0_
         clear n0_
         (try clear hb)
         (try clear hb2)
         (try clear hk)
         (try clear hi)
         refine hK.out _ _ ⟨(cb HB.out hw240_0),(cb HB.out hw240_1),(cb HB.out hw240_2),(cb HB.out hw240_3),(cb HB.out hw240_4),(cb HB.out hw240_5),(cb HB.out hw240_6),(cb HB.out hw242_0),(cb HB.out hw242_1),(cb HB.out hw242_2),(cb HB.out hw242_3),(cb HB.out hw242_4),(cb HB.out hw242_5),(cb HB.out hw242_6)⟩ (fun hHeld => ?_)
         clear hK K
         refine norm_ (a':=?_) ?_ ?_
         rotate_left
         ·show Act.put _ (some 26) _ = _
          simp only [Act.put,setIfInBounds_toArray,set_cons_zero,set_cons_succ,i64_w,i32_w]
          rfl
         refine pV_ 14 27 (bm 43 32767) HT_.out ?_
         refine pV_ 15 28 (bm 43 65535) HT_.out ?_
         refine pV_ 16 29 (bm 43 131071) HT_.out ?_
         refine pU_ 17 30 (bm 43 262143) HT_.out ?_
         refine pU_ 18 31 (bm 43 524287) HT_.out ?_
         refine pU_ 19 32 (bm 43 1048575) HT_.out ?_
         refine pU_ 20 33 (bm 43 2097151) HT_.out ?_
         refine pU_ 21 34 (bm 43 4194303) HT_.out ?_
         refine pU_ 22 35 (bm 43 8388607) HT_.out ?_
         refine pU_ 23 36 (bm 43 16777215) HT_.out ?_
         refine pV_ 24 37 (bm 43 33554431) HT_.out ?_
         refine pV_ 25 38 (bm 43 67108863) HT_.out ?_
         refine pU_ 26 39 (bm 43 134217727) HT_.out ?_
         refine pU_ 27 40 (bm 43 268435455) HT_.out ?_
         refine pU_ 28 41 (bm 43 536870911) HT_.out ?_
         refine pU_ 29 42 (bm 43 1073741823) HT_.out ?_
         refine pU_ 30 43 (bm 43 2147483647) HT_.out ?_
         refine pU_ 31 44 (bm 43 4294967295) HT_.out ?_
         refine pU_ 32 45 (bm 43 8589934591) HT_.out ?_
         refine pU_ 33 46 (bm 43 17179869183) HT_.out ?_
         refine pU_ 34 47 (bm 43 34359738367) HT_.out ?_
         refine pU_ 35 48 (bm 43 68719476735) HT_.out ?_
         refine pU_ 36 49 (bm 43 137438953471) HT_.out ?_
         refine pU_ 37 50 (bm 43 274877906943) HT_.out ?_
         refine pU_ 38 51 (bm 43 549755813887) HT_.out ?_
         refine pU_ 39 52 (bm 43 1099511627775) HT_.out ?_
         refine pU_ 40 53 (bm 43 2199023255551) HT_.out ?_
         refine pU_ 41 54 (bm 43 4398046511103) HT_.out ?_
         refine pV_ 42 55 (bm 43 8796093022207) HT_.out ?_
         refine done_ (done_of HT_.out (by kernel_rfl)) ?_
         try go_wp2
         go_meet
         case rel => exact ⟨_,(true),(by first | rfl | (simp; done) | (simp [*]; done)),H',⟨by have := HK1.out; first | omega | exact Nat.le_refl _⟩,⟨bA⟩⟩
       ·replace c7 := Bool.eq_false_iff.mpr c7
        subst c7
        rw [if_neg (show ¬ (false = true) by decide)] at H
        have H' := Aside0.mk H
        clear H
        try go_wp2
        have n0_ := Aside0.mk (below_drew1 HB.out)
        clear HB
        have HB := n0_
        clear n0_
        have p240 : 0 ≤ (x3_1 : Int) := od
        have q240 : x3_1 < (l0.length : Int) := od
        obtain ⟨ad240,e240,hx240_0,hx240_1,hx240_2,hx240_3,hx240_4,hx240_5,hx240_6⟩ := at_T75 HR0.out x3_1 p240 q240
        have hw240_6 := hx240_6
        have hw240_5 := hx240_5
        have hw240_4 := hx240_4
        have hw240_3 := hx240_3
        have hw240_2 := hx240_2
        have hw240_1 := hx240_1
        have hw240_0 := hx240_0
        cases e240
        replace hx240_0 := cb HB.out hx240_0
        replace hx240_1 := cb HB.out hx240_1
        replace hx240_2 := cb HB.out hx240_2
        replace hx240_3 := cb HB.out hx240_3
        replace hx240_4 := cb HB.out hx240_4
        replace hx240_5 := cb HB.out hx240_5
        replace hx240_6 := cb HB.out hx240_6
        replace p240 := eq_true p240
        replace q240 := eq_true q240
        refine start_ (n:=43) (S:=fun w' => w'.cell? (ad240.add ((x3_1).toNat * 7)) = some (.int .i64 ((rd_T75 l0 x3_1).f0)) ∧ w'.cell? ⟨(ad240.add ((x3_1).toNat * 7)).block,(ad240.add ((x3_1).toNat * 7)).off + 1,none⟩ = some (.int .i64 ((rd_T75 l0 x3_1).f1.f0)) ∧ w'.cell? ⟨(ad240.add ((x3_1).toNat * 7)).block,(ad240.add ((x3_1).toNat * 7)).off + 2,none⟩ = some (.int .i64 ((rd_T75 l0 x3_1).f1.f1)) ∧ w'.cell? ⟨(ad240.add ((x3_1).toNat * 7)).block,(ad240.add ((x3_1).toNat * 7)).off + 3,none⟩ = some (.int .i64 ((rd_T75 l0 x3_1).f1.f2)) ∧ w'.cell? ⟨(ad240.add ((x3_1).toNat * 7)).block,(ad240.add ((x3_1).toNat * 7)).off + 4,none⟩ = some (.int .i64 ((rd_T75 l0 x3_1).f1.f3)) ∧ w'.cell? ⟨(ad240.add ((x3_1).toNat * 7)).block,(ad240.add ((x3_1).toNat * 7)).off + 5,none⟩ = some (.int .i64 ((rd_T75 l0 x3_1).f1.f4)) ∧ w'.cell? ⟨(ad240.add ((x3_1).toNat * 7)).block,(ad240.add ((x3_1).toNat * 7)).off + 6,none⟩ = some (.int .i64 ((rd_T75 l0 x3_1).f1.f5))) (ds := []) (bm 43 0) (by kernel_rfl) rfl rfl ⟨(cb HB.out hw240_0),(cb HB.out hw240_1),(cb HB.out hw240_2),(cb HB.out hw240_3),(cb HB.out hw240_4),(cb HB.out hw240_5),(cb HB.out hw240_6)⟩ (fun hHeld => ?_); refine with_tabW spec_BucketsOK.tab6 spec_BucketsOK.bits6 (fun HT_ HW_ => ?_)
        generalize wr.drew = w23 at HB hx240_0 hx240_1 hx240_2 hx240_3 hx240_4 hx240_5 hx240_6 hHeld ⊢
        refine pV_ 0 13 (bm 43 1) HT_.out ?_
        refine pV_ 1 14 (bm 43 3) HT_.out ?_
        refine pV_ 2 15 (bm 43 7) HT_.out ?_
        refine pV_ 3 16 (bm 43 15) HT_.out ?_
        refine take_ (i:=4) (N:=some 17) (v:=?_) (a':=?_) (bm 43 31) rfl rfl (take_ofW HT_.out HW_.out (by kernel_rfl)) (fun _ _ _ h => h) (Or.inl ⟨by rfl,?_⟩) hHeld ?_ ?_
        rotate_left
        ·rintro w' ⟨s0,s1,s2,s3,s4,s5,s6⟩
         go_simp
         with_reducible rfl
        rotate_left
        ·simp only [Act.put,setIfInBounds_toArray,set_cons_zero,set_cons_succ,i64_w,i32_w]
         rfl
        refine one_ (i:=5) (N:=some 18) (bm 43 63) rfl rfl (one_of HT_.out (by kernel_rfl)) (by decide) (fun K hK => ?_)
        refine goes_ Tryz.func18 (by kernel_rfl) rfl #[.int .i64 ((rd_T75 l0 x3_1).f0),.int .i64 0,.int .i64 99999] (by rfl) rfl rfl mA ?_
        with_reducible refine (spec_l01In.calls ((rd_T75 l0 x3_1).f0) 0 99999 false _ A6.out).mono ?_
        rintro e w' ⟨rfl,⟨nd,rfl⟩⟩
        refine ⟨_,rfl,?_⟩
        refine hK.out _ _ ⟨(cb HB.out hw240_0),(cb HB.out hw240_1),(cb HB.out hw240_2),(cb HB.out hw240_3),(cb HB.out hw240_4),(cb HB.out hw240_5),(cb HB.out hw240_6)⟩ (fun hHeld => ?_)
        clear hK K
        refine norm_ (a':=?_) ?_ ?_
        rotate_left
        ·show Act.put _ (some 18) _ = _
         simp only [Act.put,setIfInBounds_toArray,set_cons_zero,set_cons_succ,i64_w,i32_w]
         rfl
        refine pV_ 6 19 (bm 43 127) HT_.out ?_
        refine pV_ 7 20 (bm 43 255) HT_.out ?_
        refine pU_ 8 21 (bm 43 511) HT_.out ?_
        refine pU_ 9 22 (bm 43 1023) HT_.out ?_
        refine pU_ 10 23 (bm 43 2047) HT_.out ?_
        refine pU_ 11 24 (bm 43 4095) HT_.out ?_
        refine pU_ 12 25 (bm 43 8191) HT_.out ?_
        refine pU_ 13 26 (bm 43 16383) HT_.out ?_
        refine pU_ 14 27 (bm 43 32767) HT_.out ?_
        refine pV_ 15 28 (bm 43 65535) HT_.out ?_
        refine pV_ 16 29 (bm 43 131071) HT_.out ?_
        refine pU_ 17 30 (bm 43 262143) HT_.out ?_
        refine pU_ 18 31 (bm 43 524287) HT_.out ?_
        refine pU_ 19 32 (bm 43 1048575) HT_.out ?_
        refine pU_ 20 33 (bm 43 2097151) HT_.out ?_
        refine pU_ 21 34 (bm 43 4194303) HT_.out ?_
        refine pU_ 22 35 (bm 43 8388607) HT_.out ?_
        refine pU_ 23 36 (bm 43 16777215) HT_.out ?_
        refine pV_ 24 37 (bm 43 33554431) HT_.out ?_
        refine pV_ 25 38 (bm 43 67108863) HT_.out ?_
        refine pU_ 26 39 (bm 43 134217727) HT_.out ?_
        refine pU_ 27 40 (bm 43 268435455) HT_.out ?_
        refine pU_ 28 41 (bm 43 536870911) HT_.out ?_
        refine pU_ 29 42 (bm 43 1073741823) HT_.out ?_
        refine pU_ 30 43 (bm 43 2147483647) HT_.out ?_
        refine pU_ 31 44 (bm 43 4294967295) HT_.out ?_
        refine pU_ 32 45 (bm 43 8589934591) HT_.out ?_
        refine pU_ 33 46 (bm 43 17179869183) HT_.out ?_
        refine pU_ 34 47 (bm 43 34359738367) HT_.out ?_
        refine pU_ 35 48 (bm 43 68719476735) HT_.out ?_
        refine pU_ 36 49 (bm 43 137438953471) HT_.out ?_
        refine pU_ 37 50 (bm 43 274877906943) HT_.out ?_
        refine pU_ 38 51 (bm 43 549755813887) HT_.out ?_
        refine pU_ 39 52 (bm 43 1099511627775) HT_.out ?_
        refine pU_ 40 53 (bm 43 2199023255551) HT_.out ?_
        refine pU_ 41 54 (bm 43 4398046511103) HT_.out ?_
        refine pV_ 42 55 (bm 43 8796093022207) HT_.out ?_
        refine done_ (done_of HT_.out (by kernel_rfl)) ?_
        try go_wp2
        go_meet
        case rel => exact ⟨_,(true),(by first | rfl | (simp; done) | (simp [*]; done)),H',⟨by have := HK1.out; first | omega | exact Nat.le_refl _⟩,⟨bA⟩⟩
      ·rw [if_neg c5] at H
       exact absurd H (by simp)
     case rest =>
      clear HC4
      try clear c1
      try clear p2
      try clear q2
      try clear hx2
      try clear c5
      try clear c6
      try clear c7
      try clear c9
      try clear c18
      try clear hx240_0
      try clear hx240_1
      try clear hx240_2
      try clear hx240_3
      try clear hx240_4
      try clear hx240_5
      try clear hx240_6
      try clear hx242_0
      try clear hx242_1
      try clear hx242_2
      try clear hx242_3
      try clear hx242_4
      try clear hx242_5
      try clear hx242_6
      try clear p240
      try clear p242
      try clear q240
      try clear q242
      obtain ⟨kq,x55_3,rfl,HA,HJ3,HB⟩ := hcut
      cases kq with
      | zero => exact absurd HA.out (by simp [spec_BucketsOK.j1])
      | succ kj3 =>
       have H := HA.out
       clear HA
       simp only [spec_BucketsOK.j1] at H
       by_cases c24 : x55_3 = true
       ·subst c24
        rw [if_pos rfl] at H
        obtain rfl := Option.some.inj H
        go_wp2
        go_ret
        exact ⟨by first | rfl | (simp only [i64_w,i32_w] <;> rfl) | (simp [errW_none,errW_some] <;> rfl) | (simp [*,errW_none,errW_some] <;> rfl),bA⟩
       ·replace c24 := Bool.eq_false_iff.mpr c24
        subst c24
        rw [if_neg (show ¬ (false = true) by decide)] at H
        have H' := Aside0.mk H
        clear H
        go_wp2
        go_roundg kj3
        case measure => have := HK1.out; have := HJ3.out; omega
        case rel => exact ⟨(wrap64 (x3_1 + 1)),(by first | rfl | (simp; done) | (simp [*]; done)),H',⟨by have := HK1.out; have := HJ3.out; omega⟩,⟨bA⟩⟩
    ·rw [if_neg c3] at H
     have c3b0 : decide (x3_1 < (l0.length : Int)) = false := decide_eq_false c3
     clear c3
     obtain rfl := Option.some.inj H
     go_wp2
     go_ret
     exact ⟨by first | rfl | (simp only [i64_w,i32_w] <;> rfl) | (simp [errW_none,errW_some] <;> rfl) | (simp [*,errW_none,errW_some] <;> rfl),bA⟩

end Go.Proofs.YtleifhnoaaphmaaGreatDoor.XFnExactWindowOf
