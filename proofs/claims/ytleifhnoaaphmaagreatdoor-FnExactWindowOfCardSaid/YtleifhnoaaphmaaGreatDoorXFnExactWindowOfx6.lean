-- Printed by this session's own program wip/tools/xprint.py, which widens the kit's print. Not trusted: Lean checks it.
import Derived.Test.YtleifhnoaaphmaaGreatDoorXFnExactWindowOfx0
import Derived.Test.YtleifhnoaaphmaaGreatDoorXFnExactWindowOfx5
namespace Go.Proofs.YtleifhnoaaphmaaGreatDoor.XFnExactWindowOf
open List (setIfInBounds_toArray set_cons_zero set_cons_succ)
open Go.RowKit Go.Proofs.YtleifhnoaaphmaaGreatDoorW.PrintWords Go.Proofs.YtleifhnoaaphmaaGreatDoorW.PrintLast Go.Proofs.YtleifhnoaaphmaaGreatDoorW.PrintMore
attribute [local go_sem] max2_int min2_int max_two min_two max_three min_three max_four min_four   -- for this text's walks alone
set_option linter.unusedVariables false
set_option linter.unusedSimpArgs false

/-! ### spec_SamplesOK: function 38 -/
mutual
def spec_SamplesOK.l0 : Nat → List (S49) → Int → Option (Bool)
 | 0,_,_ => none
 | k + 1,x0,x3 => if x3 < (x0.length : Int) then (if 0 ≤ x3 then ((spec_l02Sample.f ((rd_T49 x0 x3).f0) ((rd_T49 x0 x3).f1)).bind fun t178 => (if t178 = true then (if x3 > 0 then (if 0 ≤ (wrap64 (x3 - 1)) then (if (wrap64 (x3 - 1)) < (x0.length : Int) then (spec_SamplesOK.j1 k x0 x3 (decide (((rd_T49 x0 (wrap64 (x3 - 1))).f0) ≥ ((rd_T49 x0 x3).f0)))) else (none)) else (none)) else (spec_SamplesOK.j1 k x0 x3 false)) else (spec_SamplesOK.j1 k x0 x3 true))) else (none)) else (some true)
def spec_SamplesOK.j1 : Nat → List (S49) → Int → Bool → Option (Bool)
 | 0,_,_,_ => none
 | k + 1,x0,x3,x36 => if x36 = true then (some false) else (spec_SamplesOK.l0 k x0 (wrap64 (x3 + 1)))
end
def spec_SamplesOK.f (k : Nat) (l0 : List (S49)) : Option (Bool) := if (l0.length : Int) > 4096 then (some false) else (spec_SamplesOK.l0 k l0 0)
theorem spec_SamplesOK.mono_l : ∀ k,(∀ y0 y1,LeO (spec_SamplesOK.l0 k y0 y1) (spec_SamplesOK.l0 (k + 1) y0 y1)) ∧ (∀ y0 y1 y2,LeO (spec_SamplesOK.j1 k y0 y1 y2) (spec_SamplesOK.j1 (k + 1) y0 y1 y2))
 | 0 => ⟨fun _ _ r h => by simp [spec_SamplesOK.l0] at h,fun _ _ _ r h => by simp [spec_SamplesOK.j1] at h⟩
 | k + 1 => by
  obtain ⟨ih0,ih1⟩ := spec_SamplesOK.mono_l k
  refine ⟨?_,?_⟩
  ·intro y0 y1
   unfold spec_SamplesOK.l0
   repeat' first
   | (with_reducible exact ih0 _ _)
   | (with_reducible exact ih1 _ _ _)
   | (with_reducible exact LeO.refl _)
   | (with_reducible exact LeO.none _)
   | (with_reducible refine LeO.ite ?_ ?_)
   | (with_reducible refine LeO.bind ?_ (fun _ => ?_))
   | exact ih0 _ _
   | exact ih1 _ _ _
   | exact LeO.none _
   | refine LeO.ite ?_ ?_
   | refine LeO.bind ?_ (fun _ => ?_)
  ·intro y0 y1 y2
   unfold spec_SamplesOK.j1
   repeat' first
   | (with_reducible exact ih0 _ _)
   | (with_reducible exact ih1 _ _ _)
   | (with_reducible exact LeO.refl _)
   | (with_reducible exact LeO.none _)
   | (with_reducible refine LeO.ite ?_ ?_)
   | (with_reducible refine LeO.bind ?_ (fun _ => ?_))
   | exact ih0 _ _
   | exact ih1 _ _ _
   | exact LeO.none _
   | refine LeO.ite ?_ ?_
   | refine LeO.bind ?_ (fun _ => ?_)
theorem spec_SamplesOK.mono : ∀ a0 k,LeO (spec_SamplesOK.f k a0) (spec_SamplesOK.f (k + 1) a0) := by
 intro a0 k
 obtain ⟨ih0,ih1⟩ := spec_SamplesOK.mono_l k
 unfold spec_SamplesOK.f
 repeat' first
   | (with_reducible exact ih0 _ _)
   | (with_reducible exact ih1 _ _ _)
   | (with_reducible exact LeO.refl _)
   | (with_reducible exact LeO.none _)
   | (with_reducible refine LeO.ite ?_ ?_)
   | (with_reducible refine LeO.bind ?_ (fun _ => ?_))
   | exact ih0 _ _
   | exact ih1 _ _ _
   | exact LeO.none _
   | refine LeO.ite ?_ ?_
   | refine LeO.bind ?_ (fun _ => ?_)
def spec_SamplesOK.T6 : Bool × List (List Nat × List Nat) := (true,[([],[]),([],[]),([0,1],[0,1]),([2],[2]),([3],[3]),([4],[4]),([5,4],[5]),([6],[6]),([7,6],[6,7]),([8,6,6],[6,8]),([9],[9]),([9],[9]),([11,9],[9,11]),([10,12,9],[9,10,12]),([13,9],[9,13]),([14,9],[9,14]),([9],[9]),([9],[9]),([16,17,9],[9,16,17]),([18,9],[9,18]),([19,9],[9,19]),([15,20,9],[9,15,20]),([9,21,6],[6,9,21]),([6,22],[6,22])])
def spec_SamplesOK.B6 : List Nat := [0,0,3,7,15,31,63,127,255,511,1023,1023,3071,8191,16383,32767,1023,1023,197631,459775,984063,2097151,4194303,8388607]
theorem spec_SamplesOK.tab6 : rtab .any (opsOf Tryz.f38 6) = spec_SamplesOK.T6 := by kernel_rfl
theorem spec_SamplesOK.bits6 : waitsOk spec_SamplesOK.T6.2 spec_SamplesOK.B6 = true := by kernel_rfl
set_option maxHeartbeats 8000000 in
set_option maxRecDepth 100000 in
theorem spec_SamplesOK.calls (k : Nat) (A0 : Option Addr) (c0 : Nat) (l0 : List (S49)) (r : Bool) (w : World) (hr0 : Kd.C k49 w A0 l0.length l0) (hc0 : l0.length ≤ c0) (h : spec_SamplesOK.f k l0 = some r) :
  Calls Tryz.prog 38 #[.slice A0 l0.length c0] w fun e w' => e = .returned (.bool r) ∧ Below w.heap.size w w' := by
 have hu49 := Tryz.underlying49
 have HR0 := Aside0.mk hr0
 have HC0 := Aside0.mk hc0
 clear hr0 hc0
 have HB := Aside0.mk (Below.refl w.heap.size w)
 have H : (if (l0.length : Int) > 4096 then (some false) else (spec_SamplesOK.l0 k l0 0)) = some r := h
 clear h
 by_cases c2 : (l0.length : Int) > 4096
 ·rw [if_pos c2] at H
  have c2b0 : decide (4096 < (l0.length : Int)) = true := decide_eq_true c2
  have c2b1 : decide (4096 < l0.length) = true := decide_eq_true (by omega)
  clear c2
  obtain rfl := Option.some.inj H
  go_enter Tryz.func38,Tryz.ntmps38
  go_wp2
  go_ret
  exact ⟨by first | rfl | (simp only [i64_w,i32_w] <;> rfl) | (simp [errW_none,errW_some] <;> rfl) | (simp [*,errW_none,errW_some] <;> rfl),bA⟩
 ·rw [if_neg c2] at H
  have c2b0 : decide (4096 < (l0.length : Int)) = false := decide_eq_false c2
  have c2b1 : decide (4096 < l0.length) = false := decide_eq_false (by omega)
  clear c2
  have H' := Aside0.mk H
  clear H
  go_enter Tryz.func38,Tryz.ntmps38
  go_wp2
  go_loopg [3] k (fun kq v3 w' => ∃ (x3_1 : Int),v3 = .int .i64 x3_1 ∧ Aside0 (spec_SamplesOK.l0 kq l0 x3_1 = some r) ∧ Aside0 (kq ≤ k) ∧ Aside0 (Below w.heap.size w w'))
  case atStart => exact ⟨(0),(by first | rfl | (simp; done) | (simp [*]; done)),H',⟨Nat.le_refl _⟩,⟨bA⟩⟩
  case round =>
   clear H'
   try clear c2
   try clear c2b0
   try clear c2b1
   try clear p2
   obtain ⟨x3_1,rfl,HA,HK1,HB⟩ := hrel
   cases gk with
   | zero => exact absurd HA.out (by simp [spec_SamplesOK.l0])
   | succ k1 =>
    have H := HA.out
    clear HA
    simp only [spec_SamplesOK.l0] at H
    by_cases c3 : x3_1 < (l0.length : Int)
    ·rw [if_pos c3] at H
     have c3b0 : decide (x3_1 < (l0.length : Int)) = true := decide_eq_true c3
     clear c3
     have HC4 := Aside0.mk H
     clear H
     go_upto_region 6 with (fail)
     go_cut [36] (fun v36 wc => ∃ (kq : Nat) (x36_3 : Bool),v36 = .bool x36_3 ∧ Aside0 (spec_SamplesOK.j1 kq l0 x3_1 x36_3 = some r) ∧ Aside0 (kq ≤ k1) ∧ Aside0 (Below w.heap.size w wc))
     case first =>
      have H := HC4.out
      clear HC4
      by_cases c5 : 0 ≤ x3_1
      ·rw [if_pos c5] at H
       have c5b0 : decide (0 ≤ x3_1) = true := decide_eq_true c5
       clear c5
       (first | rw [c5b0] | (simp only [i64_w,i32_w]; rw [c5b0]) | skip)
       replace H := Option.bind_eq_some_iff.mp H
       obtain ⟨t178,A60,H⟩ := H
       try dsimp only at H
       have A6 := Aside0.mk A60
       clear A60
       by_cases c7 : t178 = true
       ·subst c7
        rw [if_pos rfl] at H
        by_cases c8 : x3_1 > 0
        ·rw [if_pos c8] at H
         have c8b0 : decide (0 < x3_1) = true := decide_eq_true c8
         clear c8
         obtain ⟨ji9,hji9⟩ : ∃ j_ : Int,(wrap64 (x3_1 - 1)) = j_ := ⟨_,rfl⟩
         replace H : (if 0 ≤ (ji9) then (if (ji9) < (l0.length : Int) then (spec_SamplesOK.j1 k1 l0 x3_1 (decide (((rd_T49 l0 (ji9)).f0) ≥ ((rd_T49 l0 x3_1).f0)))) else (none)) else (none)) = some r := by first | (rw [hji9] at H; exact H) | (simp only [hji9] at H ⊢; exact H)
         (try rw [hji9] at A6)
         have hji9w : (IntKind.i64.wrap (x3_1 - 1)) = ji9 := (i64_w _).trans hji9
         by_cases c10 : 0 ≤ (ji9)
         ·rw [if_pos c10] at H
          have c10b0 : decide (0 ≤ (ji9)) = true := decide_eq_true c10
          clear c10
          by_cases c11 : (ji9) < (l0.length : Int)
          ·rw [if_pos c11] at H
           have c11b0 : decide ((ji9) < (l0.length : Int)) = true := decide_eq_true c11
           clear c11
           have H' := Aside0.mk H
           clear H
           try go_wp2
           have n0_ := Aside0.mk (below_drew1 HB.out)
           clear HB
           have HB := n0_
           clear n0_
           have p177 : 0 ≤ (x3_1 : Int) := od
           have q177 : x3_1 < (l0.length : Int) := od
           obtain ⟨ad177,e177,hx177_0,hx177_1⟩ := at_T49 HR0.out x3_1 p177 q177
           have hw177_1 := hx177_1
           have hw177_0 := hx177_0
           cases e177
           replace hx177_0 := cb HB.out hx177_0
           replace hx177_1 := cb HB.out hx177_1
           replace p177 := eq_true p177
           replace q177 := eq_true q177
           have p179 : 0 ≤ ((ji9) : Int) := od
           have q179 : (ji9) < (l0.length : Int) := od
           obtain ⟨ad179,e179,hx179_0,hx179_1⟩ := at_T49 HR0.out (ji9) p179 q179
           have hw179_1 := hx179_1
           have hw179_0 := hx179_0
           obtain rfl : ad177 = ad179 := (by injection e179)
           replace hx179_0 := cb HB.out hx179_0
           replace hx179_1 := cb HB.out hx179_1
           replace p179 := eq_true p179
           replace q179 := eq_true q179
           have p180 : 0 ≤ (x3_1 : Int) := od
           have q180 : x3_1 < (l0.length : Int) := od
           obtain ⟨ad180,e180,hx180_0,hx180_1⟩ := at_T49 HR0.out x3_1 p180 q180
           have hw180_1 := hx180_1
           have hw180_0 := hx180_0
           obtain rfl : ad177 = ad180 := (by injection e180)
           replace hx180_0 := cb HB.out hx180_0
           replace hx180_1 := cb HB.out hx180_1
           replace p180 := eq_true p180
           replace q180 := eq_true q180
           refine start_ (n:=24) (S:=fun w' => w'.cell? (ad177.add ((x3_1).toNat * 2)) = some (.int .i64 ((rd_T49 l0 x3_1).f0)) ∧ w'.cell? ⟨(ad177.add ((x3_1).toNat * 2)).block,(ad177.add ((x3_1).toNat * 2)).off + 1,none⟩ = some (.int .i64 ((rd_T49 l0 x3_1).f1)) ∧ w'.cell? (ad177.add (((ji9)).toNat * 2)) = some (.int .i64 ((rd_T49 l0 (ji9)).f0)) ∧ w'.cell? ⟨(ad177.add (((ji9)).toNat * 2)).block,(ad177.add (((ji9)).toNat * 2)).off + 1,none⟩ = some (.int .i64 ((rd_T49 l0 (ji9)).f1)) ∧ w'.cell? (ad177.add ((x3_1).toNat * 2)) = some (.int .i64 ((rd_T49 l0 x3_1).f0)) ∧ w'.cell? ⟨(ad177.add ((x3_1).toNat * 2)).block,(ad177.add ((x3_1).toNat * 2)).off + 1,none⟩ = some (.int .i64 ((rd_T49 l0 x3_1).f1))) (ds := []) (bm 24 0) (by kernel_rfl) rfl rfl ⟨(cb HB.out hw177_0),(cb HB.out hw177_1),(cb HB.out hw179_0),(cb HB.out hw179_1),(cb HB.out hw180_0),(cb HB.out hw180_1)⟩ (fun hHeld => ?_); refine with_tabW spec_SamplesOK.tab6 spec_SamplesOK.bits6 (fun HT_ HW_ => ?_)
           generalize wr.drew = w12 at HB hx177_0 hx177_1 hx179_0 hx179_1 hx180_0 hx180_1 hHeld ⊢
           refine pV_ 0 13 (bm 24 1) HT_.out ?_
           refine pV_ 1 14 (bm 24 3) HT_.out ?_
           refine pV_ 2 15 (bm 24 7) HT_.out ?_
           refine take_ (i:=3) (N:=some 16) (v:=?_) (a':=?_) (bm 24 15) rfl rfl (take_ofW HT_.out HW_.out (by kernel_rfl)) (fun _ _ _ h => h) (Or.inl ⟨by rfl,?_⟩) hHeld ?_ ?_
           rotate_left
           ·rintro w' ⟨s0,s1,s2,s3,s4,s5⟩
            go_simp
            with_reducible rfl
           rotate_left
           ·simp only [Act.put,setIfInBounds_toArray,set_cons_zero,set_cons_succ,i64_w,i32_w]
            rfl
           refine one_ (i:=4) (N:=some 17) (bm 24 31) rfl rfl (one_of HT_.out (by kernel_rfl)) (by decide) (fun K hK => ?_)
           refine goes_ Tryz.func59 (by kernel_rfl) rfl #[.agg #[.int .i64 ((rd_T49 l0 x3_1).f0),.int .i64 ((rd_T49 l0 x3_1).f1)]] (by rfl) rfl rfl mA ?_
           with_reducible refine (spec_l02Sample.calls ((rd_T49 l0 x3_1).f0) ((rd_T49 l0 x3_1).f1) true _ A6.out).mono ?_
           rintro e w13 ⟨rfl,hb⟩
           refine ⟨_,rfl,?_⟩
           have n0_ := Aside0.mk (below_step bA hb)
           clear HB
           have HB := n0_
           clear n0_
           (try clear hb)
           (try clear hb2)
           (try clear hk)
           (try clear hi)
           refine hK.out _ _ ⟨(cb HB.out hw177_0),(cb HB.out hw177_1),(cb HB.out hw179_0),(cb HB.out hw179_1),(cb HB.out hw180_0),(cb HB.out hw180_1)⟩ (fun hHeld => ?_)
           clear hK K
           refine norm_ (a':=?_) ?_ ?_
           rotate_left
           ·show Act.put _ (some 17) _ = _
            simp only [Act.put,setIfInBounds_toArray,set_cons_zero,set_cons_succ,i64_w,i32_w]
            rfl
           refine pV_ 5 18 (bm 24 63) HT_.out ?_
           refine pV_ 6 19 (bm 24 127) HT_.out ?_
           refine pV_ 7 20 (bm 24 255) HT_.out ?_
           refine pV_ 8 21 (bm 24 511) HT_.out ?_
           refine pV_ 9 22 (bm 24 1023) HT_.out ?_
           refine pV_ 10 23 (bm 24 2047) HT_.out ?_
           refine pV_ 11 24 (bm 24 4095) HT_.out ?_
           refine pV_ 12 25 (bm 24 8191) HT_.out ?_
           refine pV_ 13 26 (bm 24 16383) HT_.out ?_
           refine pV_ 14 27 (bm 24 32767) HT_.out ?_
           refine pV_ 16 29 (bm 24 98303) HT_.out ?_
           refine pV_ 17 30 (bm 24 229375) HT_.out ?_
           refine pV_ 18 31 (bm 24 491519) HT_.out ?_
           refine pV_ 19 32 (bm 24 1015807) HT_.out ?_
           refine take_ (i:=15) (N:=some 28) (v:=?_) (a':=?_) (bm 24 1048575) rfl rfl (take_ofW HT_.out HW_.out (by kernel_rfl)) (fun _ _ _ h => h) (Or.inl ⟨by rfl,?_⟩) hHeld ?_ ?_
           rotate_left
           ·rintro w' ⟨s0,s1,s2,s3,s4,s5⟩
            go_simp
            with_reducible rfl
           rotate_left
           ·simp only [Act.put,setIfInBounds_toArray,set_cons_zero,set_cons_succ,i64_w,i32_w]
            rfl
           refine take_ (i:=20) (N:=some 33) (v:=?_) (a':=?_) (bm 24 2097151) rfl rfl (take_ofW HT_.out HW_.out (by kernel_rfl)) (fun _ _ _ h => h) (Or.inl ⟨by rfl,?_⟩) hHeld ?_ ?_
           rotate_left
           ·rintro w' ⟨s0,s1,s2,s3,s4,s5⟩
            go_simp
            with_reducible rfl
           rotate_left
           ·simp only [Act.put,setIfInBounds_toArray,set_cons_zero,set_cons_succ,i64_w,i32_w]
            rfl
           refine pV_ 21 34 (bm 24 4194303) HT_.out ?_
           refine pV_ 22 35 (bm 24 8388607) HT_.out ?_
           refine pV_ 23 36 (bm 24 16777215) HT_.out ?_
           refine done_ (done_of HT_.out (by kernel_rfl)) ?_
           try go_wp2
           go_meet
           case rel => exact ⟨_,(decide (((rd_T49 l0 (ji9)).f0) ≥ ((rd_T49 l0 x3_1).f0))),(by first | rfl | (simp; done) | (simp only [← hji9] <;> (first | rfl | simp)) | (simp [*]; done)),H',⟨by have := HK1.out; first | omega | exact Nat.le_refl _⟩,⟨bA⟩⟩
          ·rw [if_neg c11] at H
           exact absurd H (by simp)
         ·rw [if_neg c10] at H
          exact absurd H (by simp)
        ·rw [if_neg c8] at H
         have c8b0 : decide (0 < x3_1) = false := decide_eq_false c8
         clear c8
         have H' := Aside0.mk H
         clear H
         try go_wp2
         have n0_ := Aside0.mk (below_drew1 HB.out)
         clear HB
         have HB := n0_
         clear n0_
         have p177 : 0 ≤ (x3_1 : Int) := od
         have q177 : x3_1 < (l0.length : Int) := od
         obtain ⟨ad177,e177,hx177_0,hx177_1⟩ := at_T49 HR0.out x3_1 p177 q177
         have hw177_1 := hx177_1
         have hw177_0 := hx177_0
         cases e177
         replace hx177_0 := cb HB.out hx177_0
         replace hx177_1 := cb HB.out hx177_1
         replace p177 := eq_true p177
         replace q177 := eq_true q177
         refine start_ (n:=24) (S:=fun w' => w'.cell? (ad177.add ((x3_1).toNat * 2)) = some (.int .i64 ((rd_T49 l0 x3_1).f0)) ∧ w'.cell? ⟨(ad177.add ((x3_1).toNat * 2)).block,(ad177.add ((x3_1).toNat * 2)).off + 1,none⟩ = some (.int .i64 ((rd_T49 l0 x3_1).f1))) (ds := []) (bm 24 0) (by kernel_rfl) rfl rfl ⟨(cb HB.out hw177_0),(cb HB.out hw177_1)⟩ (fun hHeld => ?_); refine with_tabW spec_SamplesOK.tab6 spec_SamplesOK.bits6 (fun HT_ HW_ => ?_)
         generalize wr.drew = w14 at HB hx177_0 hx177_1 hHeld ⊢
         refine pV_ 0 13 (bm 24 1) HT_.out ?_
         refine pV_ 1 14 (bm 24 3) HT_.out ?_
         refine pV_ 2 15 (bm 24 7) HT_.out ?_
         refine take_ (i:=3) (N:=some 16) (v:=?_) (a':=?_) (bm 24 15) rfl rfl (take_ofW HT_.out HW_.out (by kernel_rfl)) (fun _ _ _ h => h) (Or.inl ⟨by rfl,?_⟩) hHeld ?_ ?_
         rotate_left
         ·rintro w' ⟨s0,s1⟩
          go_simp
          with_reducible rfl
         rotate_left
         ·simp only [Act.put,setIfInBounds_toArray,set_cons_zero,set_cons_succ,i64_w,i32_w]
          rfl
         refine one_ (i:=4) (N:=some 17) (bm 24 31) rfl rfl (one_of HT_.out (by kernel_rfl)) (by decide) (fun K hK => ?_)
         refine goes_ Tryz.func59 (by kernel_rfl) rfl #[.agg #[.int .i64 ((rd_T49 l0 x3_1).f0),.int .i64 ((rd_T49 l0 x3_1).f1)]] (by rfl) rfl rfl mA ?_
         with_reducible refine (spec_l02Sample.calls ((rd_T49 l0 x3_1).f0) ((rd_T49 l0 x3_1).f1) true _ A6.out).mono ?_
         rintro e w15 ⟨rfl,hb⟩
         refine ⟨_,rfl,?_⟩
         have n0_ := Aside0.mk (below_step bA hb)
         clear HB
         have HB := n0_
         clear n0_
         (try clear hb)
         (try clear hb2)
         (try clear hk)
         (try clear hi)
         refine hK.out _ _ ⟨(cb HB.out hw177_0),(cb HB.out hw177_1)⟩ (fun hHeld => ?_)
         clear hK K
         refine norm_ (a':=?_) ?_ ?_
         rotate_left
         ·show Act.put _ (some 17) _ = _
          simp only [Act.put,setIfInBounds_toArray,set_cons_zero,set_cons_succ,i64_w,i32_w]
          rfl
         refine pV_ 5 18 (bm 24 63) HT_.out ?_
         refine pV_ 6 19 (bm 24 127) HT_.out ?_
         refine pV_ 7 20 (bm 24 255) HT_.out ?_
         refine pV_ 8 21 (bm 24 511) HT_.out ?_
         refine pV_ 9 22 (bm 24 1023) HT_.out ?_
         refine pU_ 10 23 (bm 24 2047) HT_.out ?_
         refine pU_ 11 24 (bm 24 4095) HT_.out ?_
         refine pU_ 12 25 (bm 24 8191) HT_.out ?_
         refine pU_ 13 26 (bm 24 16383) HT_.out ?_
         refine pU_ 14 27 (bm 24 32767) HT_.out ?_
         refine pU_ 15 28 (bm 24 65535) HT_.out ?_
         refine pU_ 16 29 (bm 24 131071) HT_.out ?_
         refine pU_ 17 30 (bm 24 262143) HT_.out ?_
         refine pU_ 18 31 (bm 24 524287) HT_.out ?_
         refine pU_ 19 32 (bm 24 1048575) HT_.out ?_
         refine pU_ 20 33 (bm 24 2097151) HT_.out ?_
         refine pU_ 21 34 (bm 24 4194303) HT_.out ?_
         refine pV_ 22 35 (bm 24 8388607) HT_.out ?_
         refine pV_ 23 36 (bm 24 16777215) HT_.out ?_
         refine done_ (done_of HT_.out (by kernel_rfl)) ?_
         try go_wp2
         go_meet
         case rel => exact ⟨_,(false),(by first | rfl | (simp; done) | (simp [*]; done)),H',⟨by have := HK1.out; first | omega | exact Nat.le_refl _⟩,⟨bA⟩⟩
       ·replace c7 := Bool.eq_false_iff.mpr c7
        subst c7
        rw [if_neg (show ¬ (false = true) by decide)] at H
        have H' := Aside0.mk H
        clear H
        try go_wp2
        have n0_ := Aside0.mk (below_drew1 HB.out)
        clear HB
        have HB := n0_
        clear n0_
        have p177 : 0 ≤ (x3_1 : Int) := od
        have q177 : x3_1 < (l0.length : Int) := od
        obtain ⟨ad177,e177,hx177_0,hx177_1⟩ := at_T49 HR0.out x3_1 p177 q177
        have hw177_1 := hx177_1
        have hw177_0 := hx177_0
        cases e177
        replace hx177_0 := cb HB.out hx177_0
        replace hx177_1 := cb HB.out hx177_1
        replace p177 := eq_true p177
        replace q177 := eq_true q177
        refine start_ (n:=24) (S:=fun w' => w'.cell? (ad177.add ((x3_1).toNat * 2)) = some (.int .i64 ((rd_T49 l0 x3_1).f0)) ∧ w'.cell? ⟨(ad177.add ((x3_1).toNat * 2)).block,(ad177.add ((x3_1).toNat * 2)).off + 1,none⟩ = some (.int .i64 ((rd_T49 l0 x3_1).f1))) (ds := []) (bm 24 0) (by kernel_rfl) rfl rfl ⟨(cb HB.out hw177_0),(cb HB.out hw177_1)⟩ (fun hHeld => ?_); refine with_tabW spec_SamplesOK.tab6 spec_SamplesOK.bits6 (fun HT_ HW_ => ?_)
        generalize wr.drew = w16 at HB hx177_0 hx177_1 hHeld ⊢
        refine pV_ 0 13 (bm 24 1) HT_.out ?_
        refine pV_ 1 14 (bm 24 3) HT_.out ?_
        refine pV_ 2 15 (bm 24 7) HT_.out ?_
        refine take_ (i:=3) (N:=some 16) (v:=?_) (a':=?_) (bm 24 15) rfl rfl (take_ofW HT_.out HW_.out (by kernel_rfl)) (fun _ _ _ h => h) (Or.inl ⟨by rfl,?_⟩) hHeld ?_ ?_
        rotate_left
        ·rintro w' ⟨s0,s1⟩
         go_simp
         with_reducible rfl
        rotate_left
        ·simp only [Act.put,setIfInBounds_toArray,set_cons_zero,set_cons_succ,i64_w,i32_w]
         rfl
        refine one_ (i:=4) (N:=some 17) (bm 24 31) rfl rfl (one_of HT_.out (by kernel_rfl)) (by decide) (fun K hK => ?_)
        refine goes_ Tryz.func59 (by kernel_rfl) rfl #[.agg #[.int .i64 ((rd_T49 l0 x3_1).f0),.int .i64 ((rd_T49 l0 x3_1).f1)]] (by rfl) rfl rfl mA ?_
        with_reducible refine (spec_l02Sample.calls ((rd_T49 l0 x3_1).f0) ((rd_T49 l0 x3_1).f1) false _ A6.out).mono ?_
        rintro e w17 ⟨rfl,hb⟩
        refine ⟨_,rfl,?_⟩
        have n0_ := Aside0.mk (below_step bA hb)
        clear HB
        have HB := n0_
        clear n0_
        (try clear hb)
        (try clear hb2)
        (try clear hk)
        (try clear hi)
        refine hK.out _ _ ⟨(cb HB.out hw177_0),(cb HB.out hw177_1)⟩ (fun hHeld => ?_)
        clear hK K
        refine norm_ (a':=?_) ?_ ?_
        rotate_left
        ·show Act.put _ (some 17) _ = _
         simp only [Act.put,setIfInBounds_toArray,set_cons_zero,set_cons_succ,i64_w,i32_w]
         rfl
        refine pV_ 5 18 (bm 24 63) HT_.out ?_
        refine pV_ 6 19 (bm 24 127) HT_.out ?_
        refine pU_ 7 20 (bm 24 255) HT_.out ?_
        refine pU_ 8 21 (bm 24 511) HT_.out ?_
        refine pU_ 9 22 (bm 24 1023) HT_.out ?_
        refine pU_ 10 23 (bm 24 2047) HT_.out ?_
        refine pU_ 11 24 (bm 24 4095) HT_.out ?_
        refine pU_ 12 25 (bm 24 8191) HT_.out ?_
        refine pU_ 13 26 (bm 24 16383) HT_.out ?_
        refine pU_ 14 27 (bm 24 32767) HT_.out ?_
        refine pU_ 15 28 (bm 24 65535) HT_.out ?_
        refine pU_ 16 29 (bm 24 131071) HT_.out ?_
        refine pU_ 17 30 (bm 24 262143) HT_.out ?_
        refine pU_ 18 31 (bm 24 524287) HT_.out ?_
        refine pU_ 19 32 (bm 24 1048575) HT_.out ?_
        refine pU_ 20 33 (bm 24 2097151) HT_.out ?_
        refine pU_ 21 34 (bm 24 4194303) HT_.out ?_
        refine pU_ 22 35 (bm 24 8388607) HT_.out ?_
        refine pV_ 23 36 (bm 24 16777215) HT_.out ?_
        refine done_ (done_of HT_.out (by kernel_rfl)) ?_
        try go_wp2
        go_meet
        case rel => exact ⟨_,(true),(by first | rfl | (simp; done) | (simp [*]; done)),H',⟨by have := HK1.out; first | omega | exact Nat.le_refl _⟩,⟨bA⟩⟩
      ·rw [if_neg c5] at H
       exact absurd H (by simp)
     case rest =>
      clear HC4
      try clear c1
      try clear p1
      try clear q1
      try clear hx1
      try clear p2
      try clear c5
      try clear c7
      try clear c8
      try clear c8b0
      try clear c10
      try clear c11
      try clear p17
      try clear q17
      try clear hx17
      try clear hx177_0
      try clear hx177_1
      try clear hx179_0
      try clear hx179_1
      try clear hx180_0
      try clear hx180_1
      try clear p177
      try clear p179
      try clear p180
      try clear q177
      try clear q179
      try clear q180
      obtain ⟨kq,x36_3,rfl,HA,HJ3,HB⟩ := hcut
      cases kq with
      | zero => exact absurd HA.out (by simp [spec_SamplesOK.j1])
      | succ kj3 =>
       have H := HA.out
       clear HA
       simp only [spec_SamplesOK.j1] at H
       by_cases c18 : x36_3 = true
       ·subst c18
        rw [if_pos rfl] at H
        obtain rfl := Option.some.inj H
        go_wp2
        go_ret
        exact ⟨by first | rfl | (simp only [i64_w,i32_w] <;> rfl) | (simp [errW_none,errW_some] <;> rfl) | (simp [*,errW_none,errW_some] <;> rfl),bA⟩
       ·replace c18 := Bool.eq_false_iff.mpr c18
        subst c18
        rw [if_neg (show ¬ (false = true) by decide)] at H
        have H' := Aside0.mk H
        clear H
        go_wp2
        go_roundg kj3
        case measure => have := HK1.out; have := HJ3.out; omega
        case rel => exact ⟨(wrap64 (x3_1 + 1)),(by first | rfl | (simp; done) | (simp [*]; done)),H',⟨by have := HK1.out; have := HJ3.out; omega⟩,⟨bA⟩⟩
    ·rw [if_neg c3] at H
     have c3b0 : decide (x3_1 < (l0.length : Int)) = false := decide_eq_false c3
     clear c3
     obtain rfl := Option.some.inj H
     go_wp2
     go_ret
     exact ⟨by first | rfl | (simp only [i64_w,i32_w] <;> rfl) | (simp [errW_none,errW_some] <;> rfl) | (simp [*,errW_none,errW_some] <;> rfl),bA⟩

end Go.Proofs.YtleifhnoaaphmaaGreatDoor.XFnExactWindowOf
