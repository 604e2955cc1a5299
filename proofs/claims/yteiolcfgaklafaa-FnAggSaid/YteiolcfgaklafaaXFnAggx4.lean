-- Printed by this session's own program wip/tools/xprint.py, which widens the kit's print. Not trusted: Lean checks it.
import Derived.Test.YteiolcfgaklafaaXFnAggx0
import Derived.Test.YteiolcfgaklafaaXFnAggx3
namespace Go.Proofs.Yteiolcfgaklafaa.XFnAgg
open List (setIfInBounds_toArray set_cons_zero set_cons_succ)
open Go.RowKit Go.Proofs.YteiolcfgaklafaaW.PrintWords Go.Proofs.YteiolcfgaklafaaW.PrintLast Go.Proofs.YteiolcfgaklafaaW.PrintMore
attribute [local go_sem] max2_int min2_int max_two min_two max_three min_three max_four min_four   -- for this text's walks alone
set_option linter.unusedVariables false
set_option linter.unusedSimpArgs false

/-! ### spec_SamplesOK: function 47 -/
def spec_SamplesOK.l0 : Nat → List (S94) → Int → Option (Bool)
 | 0,_,_ => none
 | k + 1,x0,x3 => if x3 < (x0.length : Int) then (if 0 ≤ x3 then ((spec_l02Sample.f ((rd_T94 x0 x3).f0) ((rd_T94 x0 x3).f1)).bind fun t190 => (if t190 = true then (if x3 > 0 then (if 0 ≤ (wrap64 (x3 - 1)) then (if (wrap64 (x3 - 1)) < (x0.length : Int) then (if ((rd_T94 x0 (wrap64 (x3 - 1))).f0) ≥ ((rd_T94 x0 x3).f0) then (some false) else (spec_SamplesOK.l0 k x0 (wrap64 (x3 + 1)))) else (none)) else (none)) else (spec_SamplesOK.l0 k x0 (wrap64 (x3 + 1)))) else (some false))) else (none)) else (some true)
def spec_SamplesOK.f (k : Nat) (l0 : List (S94)) : Option (Bool) := if (l0.length : Int) > 4096 then (some false) else (spec_SamplesOK.l0 k l0 0)
theorem spec_SamplesOK.mono_l : ∀ k,(∀ y0 y1,LeO (spec_SamplesOK.l0 k y0 y1) (spec_SamplesOK.l0 (k + 1) y0 y1))
 | 0 => fun _ _ r h => by simp [spec_SamplesOK.l0] at h
 | k + 1 => by
  have ih0 := spec_SamplesOK.mono_l k
  ·intro y0 y1
   unfold spec_SamplesOK.l0
   repeat' first
   | (with_reducible exact ih0 _ _)
   | (with_reducible exact LeO.refl _)
   | (with_reducible exact LeO.none _)
   | (with_reducible refine LeO.ite ?_ ?_)
   | (with_reducible refine LeO.bind ?_ (fun _ => ?_))
   | exact ih0 _ _
   | exact LeO.none _
   | refine LeO.ite ?_ ?_
   | refine LeO.bind ?_ (fun _ => ?_)
theorem spec_SamplesOK.mono : ∀ a0 k,LeO (spec_SamplesOK.f k a0) (spec_SamplesOK.f (k + 1) a0) := by
 intro a0 k
 have ih0 := spec_SamplesOK.mono_l k
 unfold spec_SamplesOK.f
 repeat' first
   | (with_reducible exact ih0 _ _)
   | (with_reducible exact LeO.refl _)
   | (with_reducible exact LeO.none _)
   | (with_reducible refine LeO.ite ?_ ?_)
   | (with_reducible refine LeO.bind ?_ (fun _ => ?_))
   | exact ih0 _ _
   | exact LeO.none _
   | refine LeO.ite ?_ ?_
   | refine LeO.bind ?_ (fun _ => ?_)
def spec_SamplesOK.T6 : Bool × List (List Nat × List Nat) := (true,[([],[]),([],[]),([0,1],[0,1]),([2],[2]),([3],[3]),([4],[4]),([5,4],[5]),([6],[6]),([7,6],[6,7]),([8,6,6],[6,8]),([9],[9]),([9],[9]),([11,9],[9,11]),([10,12,9],[9,10,12]),([13,9],[9,13]),([14,9],[9,14]),([9],[9]),([9],[9]),([16,17,9],[9,16,17]),([18,9],[9,18]),([19,9],[9,19]),([15,20,9],[9,15,20]),([9,21,6],[6,9,21]),([6,22],[6,22])])
def spec_SamplesOK.B6 : List Nat := [0,0,3,7,15,31,63,127,255,511,1023,1023,3071,8191,16383,32767,1023,1023,197631,459775,984063,2097151,4194303,8388607]
theorem spec_SamplesOK.tab6 : rtab .any (opsOf Try.f47 6) = spec_SamplesOK.T6 := by kernel_rfl
theorem spec_SamplesOK.bits6 : waitsOk spec_SamplesOK.T6.2 spec_SamplesOK.B6 = true := by kernel_rfl
set_option maxHeartbeats 8000000 in
set_option maxRecDepth 100000 in
theorem spec_SamplesOK.calls (k : Nat) (A0 : Option Addr) (c0 : Nat) (l0 : List (S94)) (r : Bool) (w : World) (hr0 : Kd.C k94 w A0 l0.length l0) (hc0 : l0.length ≤ c0) (h : spec_SamplesOK.f k l0 = some r) :
  Calls Try.prog 47 #[.slice A0 l0.length c0] w fun e w' => e = .returned (.bool r) ∧ Below w.heap.size w w' := by
 have hu94 := Try.underlying94
 have HR0 := Aside0.mk hr0
 have HC0 := Aside0.mk hc0
 clear hr0 hc0
 have HB := Aside0.mk (Below.refl w.heap.size w)
 have H : (if (l0.length : Int) > 4096 then (some false) else (spec_SamplesOK.l0 k l0 0)) = some r := h
 clear h
 by_cases c2 : (l0.length : Int) > 4096
 ·rw [if_pos c2] at H
  have c2b0 : decide (4096 < (l0.length : Int)) = true := decide_eq_true c2
  have c2b1 : decide (4096 < l0.length) = true := decide_eq_true (by omega)
  clear c2
  obtain rfl := Option.some.inj H
  go_enter Try.func47,Try.ntmps47
  go_wp2
  go_ret
  exact ⟨by first | rfl | (simp only [i64_w,i32_w] <;> rfl) | (simp [errW_none,errW_some] <;> rfl) | (simp [*,errW_none,errW_some] <;> rfl),bA⟩
 ·rw [if_neg c2] at H
  have c2b0 : decide (4096 < (l0.length : Int)) = false := decide_eq_false c2
  have c2b1 : decide (4096 < l0.length) = false := decide_eq_false (by omega)
  clear c2
  have H' := Aside0.mk H
  clear H
  go_enter Try.func47,Try.ntmps47
  go_wp2
  go_loopg [3] k (fun kq v3 w' => ∃ (x3_1 : Int),v3 = .int .i64 x3_1 ∧ Aside0 (spec_SamplesOK.l0 kq l0 x3_1 = some r) ∧ Aside0 (kq ≤ k) ∧ Aside0 (Below w.heap.size w w'))
  case atStart => exact ⟨(0),(by first | rfl | (simp; done) | (simp [*]; done)),H',⟨Nat.le_refl _⟩,⟨bA⟩⟩
  case round =>
   clear H'
   try clear c2
   try clear c2b0
   try clear c2b1
   try clear p2
   obtain ⟨x3_1,rfl,HA,HK1,HB⟩ := hrel
   cases gk with
   | zero => exact absurd HA.out (by simp [spec_SamplesOK.l0])
   | succ k1 =>
    have H := HA.out
    clear HA
    simp only [spec_SamplesOK.l0] at H
    by_cases c3 : x3_1 < (l0.length : Int)
    ·rw [if_pos c3] at H
     have c3b0 : decide (x3_1 < (l0.length : Int)) = true := decide_eq_true c3
     clear c3
     by_cases c4 : 0 ≤ x3_1
     ·rw [if_pos c4] at H
      have c4b0 : decide (0 ≤ x3_1) = true := decide_eq_true c4
      clear c4
      replace H := Option.bind_eq_some_iff.mp H
      obtain ⟨t190,A50,H⟩ := H
      try dsimp only at H
      have A5 := Aside0.mk A50
      clear A50
      by_cases c6 : t190 = true
      ·subst c6
       rw [if_pos rfl] at H
       by_cases c7 : x3_1 > 0
       ·rw [if_pos c7] at H
        have c7b0 : decide (0 < x3_1) = true := decide_eq_true c7
        clear c7
        obtain ⟨ji8,hji8⟩ : ∃ j_ : Int,(wrap64 (x3_1 - 1)) = j_ := ⟨_,rfl⟩
        replace H : (if 0 ≤ (ji8) then (if (ji8) < (l0.length : Int) then (if ((rd_T94 l0 (ji8)).f0) ≥ ((rd_T94 l0 x3_1).f0) then (some false) else (spec_SamplesOK.l0 k1 l0 (wrap64 (x3_1 + 1)))) else (none)) else (none)) = some r := by first | (rw [hji8] at H; exact H) | (simp only [hji8] at H ⊢; exact H)
        (try rw [hji8] at A5)
        have hji8w : (IntKind.i64.wrap (x3_1 - 1)) = ji8 := (i64_w _).trans hji8
        by_cases c9 : 0 ≤ (ji8)
        ·rw [if_pos c9] at H
         have c9b0 : decide (0 ≤ (ji8)) = true := decide_eq_true c9
         clear c9
         by_cases c10 : (ji8) < (l0.length : Int)
         ·rw [if_pos c10] at H
          have c10b0 : decide ((ji8) < (l0.length : Int)) = true := decide_eq_true c10
          clear c10
          by_cases c11 : ((rd_T94 l0 (ji8)).f0) ≥ ((rd_T94 l0 x3_1).f0)
          ·rw [if_pos c11] at H
           have c11b0 : decide (((rd_T94 l0 x3_1).f0) ≤ ((rd_T94 l0 (ji8)).f0)) = true := decide_eq_true c11
           clear c11
           obtain rfl := Option.some.inj H
           try go_wp2
           have n0_ := Aside0.mk (below_drew1 HB.out)
           clear HB
           have HB := n0_
           clear n0_
           have p189 : 0 ≤ (x3_1 : Int) := of_decide_eq_true (by first | (with_reducible assumption) | assumption)
           have q189 : x3_1 < (l0.length : Int) := of_decide_eq_true (by first | (with_reducible assumption) | assumption)
           obtain ⟨ad189,e189,hx189_0,hx189_1⟩ := at_T94 HR0.out x3_1 p189 q189
           have hw189_1 := hx189_1
           have hw189_0 := hx189_0
           cases e189
           replace hx189_0 := (HB.out.cell (World.block_lt_of_cell? w _ hx189_0)).trans hx189_0
           replace hx189_1 := (HB.out.cell (World.block_lt_of_cell? w _ hx189_1)).trans hx189_1
           replace p189 := eq_true p189
           replace q189 := eq_true q189
           have p191 : 0 ≤ ((ji8) : Int) := of_decide_eq_true (by first | (with_reducible assumption) | assumption)
           have q191 : (ji8) < (l0.length : Int) := of_decide_eq_true (by first | (with_reducible assumption) | assumption)
           obtain ⟨ad191,e191,hx191_0,hx191_1⟩ := at_T94 HR0.out (ji8) p191 q191
           have hw191_1 := hx191_1
           have hw191_0 := hx191_0
           obtain rfl : ad189 = ad191 := (by injection e191)
           replace hx191_0 := (HB.out.cell (World.block_lt_of_cell? w _ hx191_0)).trans hx191_0
           replace hx191_1 := (HB.out.cell (World.block_lt_of_cell? w _ hx191_1)).trans hx191_1
           replace p191 := eq_true p191
           replace q191 := eq_true q191
           have p192 : 0 ≤ (x3_1 : Int) := of_decide_eq_true (by first | (with_reducible assumption) | assumption)
           have q192 : x3_1 < (l0.length : Int) := of_decide_eq_true (by first | (with_reducible assumption) | assumption)
           obtain ⟨ad192,e192,hx192_0,hx192_1⟩ := at_T94 HR0.out x3_1 p192 q192
           have hw192_1 := hx192_1
           have hw192_0 := hx192_0
           obtain rfl : ad189 = ad192 := (by injection e192)
           replace hx192_0 := (HB.out.cell (World.block_lt_of_cell? w _ hx192_0)).trans hx192_0
           replace hx192_1 := (HB.out.cell (World.block_lt_of_cell? w _ hx192_1)).trans hx192_1
           replace p192 := eq_true p192
           replace q192 := eq_true q192
           refine start_ (n:=24) (S:=fun w' => w'.cell? (ad189.add ((x3_1).toNat * 2)) = some (.int .i64 ((rd_T94 l0 x3_1).f0)) ∧ w'.cell? ⟨(ad189.add ((x3_1).toNat * 2)).block,(ad189.add ((x3_1).toNat * 2)).off + 1,none⟩ = some (.int .i64 ((rd_T94 l0 x3_1).f1)) ∧ w'.cell? (ad189.add (((ji8)).toNat * 2)) = some (.int .i64 ((rd_T94 l0 (ji8)).f0)) ∧ w'.cell? ⟨(ad189.add (((ji8)).toNat * 2)).block,(ad189.add (((ji8)).toNat * 2)).off + 1,none⟩ = some (.int .i64 ((rd_T94 l0 (ji8)).f1)) ∧ w'.cell? (ad189.add ((x3_1).toNat * 2)) = some (.int .i64 ((rd_T94 l0 x3_1).f0)) ∧ w'.cell? ⟨(ad189.add ((x3_1).toNat * 2)).block,(ad189.add ((x3_1).toNat * 2)).off + 1,none⟩ = some (.int .i64 ((rd_T94 l0 x3_1).f1))) (ds := []) (bm 24 0) (by kernel_rfl) rfl rfl ⟨((HB.out.cell (World.block_lt_of_cell? w _ hw189_0)).trans hw189_0),((HB.out.cell (World.block_lt_of_cell? w _ hw189_1)).trans hw189_1),((HB.out.cell (World.block_lt_of_cell? w _ hw191_0)).trans hw191_0),((HB.out.cell (World.block_lt_of_cell? w _ hw191_1)).trans hw191_1),((HB.out.cell (World.block_lt_of_cell? w _ hw192_0)).trans hw192_0),((HB.out.cell (World.block_lt_of_cell? w _ hw192_1)).trans hw192_1)⟩ (fun hHeld => ?_); refine with_tabW spec_SamplesOK.tab6 spec_SamplesOK.bits6 (fun HT_ HW_ => ?_)
           generalize wr.drew = w12 at HB hx189_0 hx189_1 hx191_0 hx191_1 hx192_0 hx192_1 hHeld ⊢
           refine pV_ 0 13 (bm 24 1) HT_.out ?_
           refine pV_ 1 14 (bm 24 3) HT_.out ?_
           refine pV_ 2 15 (bm 24 7) HT_.out ?_
           refine take_ (i:=3) (N:=some 16) (v:=?_) (a':=?_) (bm 24 15) rfl rfl (take_ofW HT_.out HW_.out (by kernel_rfl)) (fun _ _ _ h => h) (Or.inl ⟨by rfl,?_⟩) hHeld ?_ ?_
           rotate_left
           ·rintro w' ⟨s0,s1,s2,s3,s4,s5⟩
            go_simp
            with_reducible rfl
           rotate_left
           ·simp only [Act.put,setIfInBounds_toArray,set_cons_zero,set_cons_succ,i64_w,i32_w]
            rfl
           refine one_ (i:=4) (N:=some 17) (bm 24 31) rfl rfl (one_of HT_.out (by kernel_rfl)) (by decide) (fun K hK => ?_)
           refine goes_ Try.func89 (by kernel_rfl) rfl #[.agg #[.int .i64 ((rd_T94 l0 x3_1).f0),.int .i64 ((rd_T94 l0 x3_1).f1)]] (by rfl) rfl rfl mA ?_
           with_reducible refine (spec_l02Sample.calls ((rd_T94 l0 x3_1).f0) ((rd_T94 l0 x3_1).f1) true _ A5.out).mono ?_
           rintro e w13 ⟨rfl,hb⟩
           refine ⟨_,rfl,?_⟩
           have n0_ := Aside0.mk (below_step bA hb)
           clear HB
           have HB := n0_
           clear n0_
           (try clear hb)
           (try clear hb2)
           (try clear hk)
           (try clear hi)
           refine hK.out _ _ ⟨((HB.out.cell (World.block_lt_of_cell? w _ hw189_0)).trans hw189_0),((HB.out.cell (World.block_lt_of_cell? w _ hw189_1)).trans hw189_1),((HB.out.cell (World.block_lt_of_cell? w _ hw191_0)).trans hw191_0),((HB.out.cell (World.block_lt_of_cell? w _ hw191_1)).trans hw191_1),((HB.out.cell (World.block_lt_of_cell? w _ hw192_0)).trans hw192_0),((HB.out.cell (World.block_lt_of_cell? w _ hw192_1)).trans hw192_1)⟩ (fun hHeld => ?_)
           clear hK K
           refine norm_ (a':=?_) ?_ ?_
           rotate_left
           ·show Act.put _ (some 17) _ = _
            simp only [Act.put,setIfInBounds_toArray,set_cons_zero,set_cons_succ,i64_w,i32_w]
            rfl
           refine pV_ 5 18 (bm 24 63) HT_.out ?_
           refine pV_ 6 19 (bm 24 127) HT_.out ?_
           refine pV_ 7 20 (bm 24 255) HT_.out ?_
           refine pV_ 8 21 (bm 24 511) HT_.out ?_
           refine pV_ 9 22 (bm 24 1023) HT_.out ?_
           refine pV_ 10 23 (bm 24 2047) HT_.out ?_
           refine pV_ 11 24 (bm 24 4095) HT_.out ?_
           refine pV_ 12 25 (bm 24 8191) HT_.out ?_
           refine pV_ 13 26 (bm 24 16383) HT_.out ?_
           refine pV_ 14 27 (bm 24 32767) HT_.out ?_
           refine pV_ 16 29 (bm 24 98303) HT_.out ?_
           refine pV_ 17 30 (bm 24 229375) HT_.out ?_
           refine pV_ 18 31 (bm 24 491519) HT_.out ?_
           refine pV_ 19 32 (bm 24 1015807) HT_.out ?_
           refine take_ (i:=15) (N:=some 28) (v:=?_) (a':=?_) (bm 24 1048575) rfl rfl (take_ofW HT_.out HW_.out (by kernel_rfl)) (fun _ _ _ h => h) (Or.inl ⟨by rfl,?_⟩) hHeld ?_ ?_
           rotate_left
           ·rintro w' ⟨s0,s1,s2,s3,s4,s5⟩
            go_simp
            with_reducible rfl
           rotate_left
           ·simp only [Act.put,setIfInBounds_toArray,set_cons_zero,set_cons_succ,i64_w,i32_w]
            rfl
           refine take_ (i:=20) (N:=some 33) (v:=?_) (a':=?_) (bm 24 2097151) rfl rfl (take_ofW HT_.out HW_.out (by kernel_rfl)) (fun _ _ _ h => h) (Or.inl ⟨by rfl,?_⟩) hHeld ?_ ?_
           rotate_left
           ·rintro w' ⟨s0,s1,s2,s3,s4,s5⟩
            go_simp
            with_reducible rfl
           rotate_left
           ·simp only [Act.put,setIfInBounds_toArray,set_cons_zero,set_cons_succ,i64_w,i32_w]
            rfl
           refine pV_ 21 34 (bm 24 4194303) HT_.out ?_
           refine pV_ 22 35 (bm 24 8388607) HT_.out ?_
           refine pV_ 23 36 (bm 24 16777215) HT_.out ?_
           refine done_ (done_of HT_.out (by kernel_rfl)) ?_
           try go_wp2
           go_ret
           exact ⟨by first | rfl | (simp only [i64_w,i32_w] <;> rfl) | (simp [errW_none,errW_some] <;> rfl) | (simp only [← hji8]; first | rfl | (simp [errW_none,errW_some] <;> rfl)) | (simp [*,errW_none,errW_some] <;> rfl),bA⟩
          ·rw [if_neg c11] at H
           have c11b0 : decide (((rd_T94 l0 x3_1).f0) ≤ ((rd_T94 l0 (ji8)).f0)) = false := decide_eq_false c11
           clear c11
           have H' := Aside0.mk H
           clear H
           try go_wp2
           have n0_ := Aside0.mk (below_drew1 HB.out)
           clear HB
           have HB := n0_
           clear n0_
           have p189 : 0 ≤ (x3_1 : Int) := of_decide_eq_true (by first | (with_reducible assumption) | assumption)
           have q189 : x3_1 < (l0.length : Int) := of_decide_eq_true (by first | (with_reducible assumption) | assumption)
           obtain ⟨ad189,e189,hx189_0,hx189_1⟩ := at_T94 HR0.out x3_1 p189 q189
           have hw189_1 := hx189_1
           have hw189_0 := hx189_0
           cases e189
           replace hx189_0 := (HB.out.cell (World.block_lt_of_cell? w _ hx189_0)).trans hx189_0
           replace hx189_1 := (HB.out.cell (World.block_lt_of_cell? w _ hx189_1)).trans hx189_1
           replace p189 := eq_true p189
           replace q189 := eq_true q189
           have p191 : 0 ≤ ((ji8) : Int) := of_decide_eq_true (by first | (with_reducible assumption) | assumption)
           have q191 : (ji8) < (l0.length : Int) := of_decide_eq_true (by first | (with_reducible assumption) | assumption)
           obtain ⟨ad191,e191,hx191_0,hx191_1⟩ := at_T94 HR0.out (ji8) p191 q191
           have hw191_1 := hx191_1
           have hw191_0 := hx191_0
           obtain rfl : ad189 = ad191 := (by injection e191)
           replace hx191_0 := (HB.out.cell (World.block_lt_of_cell? w _ hx191_0)).trans hx191_0
           replace hx191_1 := (HB.out.cell (World.block_lt_of_cell? w _ hx191_1)).trans hx191_1
           replace p191 := eq_true p191
           replace q191 := eq_true q191
           have p192 : 0 ≤ (x3_1 : Int) := of_decide_eq_true (by first | (with_reducible assumption) | assumption)
           have q192 : x3_1 < (l0.length : Int) := of_decide_eq_true (by first | (with_reducible assumption) | assumption)
           obtain ⟨ad192,e192,hx192_0,hx192_1⟩ := at_T94 HR0.out x3_1 p192 q192
           have hw192_1 := hx192_1
           have hw192_0 := hx192_0
           obtain rfl : ad189 = ad192 := (by injection e192)
           replace hx192_0 := (HB.out.cell (World.block_lt_of_cell? w _ hx192_0)).trans hx192_0
           replace hx192_1 := (HB.out.cell (World.block_lt_of_cell? w _ hx192_1)).trans hx192_1
           replace p192 := eq_true p192
           replace q192 := eq_true q192
           refine start_ (n:=24) (S:=fun w' => w'.cell? (ad189.add ((x3_1).toNat * 2)) = some (.int .i64 ((rd_T94 l0 x3_1).f0)) ∧ w'.cell? ⟨(ad189.add ((x3_1).toNat * 2)).block,(ad189.add ((x3_1).toNat * 2)).off + 1,none⟩ = some (.int .i64 ((rd_T94 l0 x3_1).f1)) ∧ w'.cell? (ad189.add (((ji8)).toNat * 2)) = some (.int .i64 ((rd_T94 l0 (ji8)).f0)) ∧ w'.cell? ⟨(ad189.add (((ji8)).toNat * 2)).block,(ad189.add (((ji8)).toNat * 2)).off + 1,none⟩ = some (.int .i64 ((rd_T94 l0 (ji8)).f1)) ∧ w'.cell? (ad189.add ((x3_1).toNat * 2)) = some (.int .i64 ((rd_T94 l0 x3_1).f0)) ∧ w'.cell? ⟨(ad189.add ((x3_1).toNat * 2)).block,(ad189.add ((x3_1).toNat * 2)).off + 1,none⟩ = some (.int .i64 ((rd_T94 l0 x3_1).f1))) (ds := []) (bm 24 0) (by kernel_rfl) rfl rfl ⟨((HB.out.cell (World.block_lt_of_cell? w _ hw189_0)).trans hw189_0),((HB.out.cell (World.block_lt_of_cell? w _ hw189_1)).trans hw189_1),((HB.out.cell (World.block_lt_of_cell? w _ hw191_0)).trans hw191_0),((HB.out.cell (World.block_lt_of_cell? w _ hw191_1)).trans hw191_1),((HB.out.cell (World.block_lt_of_cell? w _ hw192_0)).trans hw192_0),((HB.out.cell (World.block_lt_of_cell? w _ hw192_1)).trans hw192_1)⟩ (fun hHeld => ?_); refine with_tabW spec_SamplesOK.tab6 spec_SamplesOK.bits6 (fun HT_ HW_ => ?_)
           generalize wr.drew = w14 at HB hx189_0 hx189_1 hx191_0 hx191_1 hx192_0 hx192_1 hHeld ⊢
           refine pV_ 0 13 (bm 24 1) HT_.out ?_
           refine pV_ 1 14 (bm 24 3) HT_.out ?_
           refine pV_ 2 15 (bm 24 7) HT_.out ?_
           refine take_ (i:=3) (N:=some 16) (v:=?_) (a':=?_) (bm 24 15) rfl rfl (take_ofW HT_.out HW_.out (by kernel_rfl)) (fun _ _ _ h => h) (Or.inl ⟨by rfl,?_⟩) hHeld ?_ ?_
           rotate_left
           ·rintro w' ⟨s0,s1,s2,s3,s4,s5⟩
            go_simp
            with_reducible rfl
           rotate_left
           ·simp only [Act.put,setIfInBounds_toArray,set_cons_zero,set_cons_succ,i64_w,i32_w]
            rfl
           refine one_ (i:=4) (N:=some 17) (bm 24 31) rfl rfl (one_of HT_.out (by kernel_rfl)) (by decide) (fun K hK => ?_)
           refine goes_ Try.func89 (by kernel_rfl) rfl #[.agg #[.int .i64 ((rd_T94 l0 x3_1).f0),.int .i64 ((rd_T94 l0 x3_1).f1)]] (by rfl) rfl rfl mA ?_
           with_reducible refine (spec_l02Sample.calls ((rd_T94 l0 x3_1).f0) ((rd_T94 l0 x3_1).f1) true _ A5.out).mono ?_
           rintro e w15 ⟨rfl,hb⟩
           refine ⟨_,rfl,?_⟩
           have n0_ := Aside0.mk (below_step bA hb)
           clear HB
           have HB := n0_
           clear n0_
           (try clear hb)
           (try clear hb2)
           (try clear hk)
           (try clear hi)
           refine hK.out _ _ ⟨((HB.out.cell (World.block_lt_of_cell? w _ hw189_0)).trans hw189_0),((HB.out.cell (World.block_lt_of_cell? w _ hw189_1)).trans hw189_1),((HB.out.cell (World.block_lt_of_cell? w _ hw191_0)).trans hw191_0),((HB.out.cell (World.block_lt_of_cell? w _ hw191_1)).trans hw191_1),((HB.out.cell (World.block_lt_of_cell? w _ hw192_0)).trans hw192_0),((HB.out.cell (World.block_lt_of_cell? w _ hw192_1)).trans hw192_1)⟩ (fun hHeld => ?_)
           clear hK K
           refine norm_ (a':=?_) ?_ ?_
           rotate_left
           ·show Act.put _ (some 17) _ = _
            simp only [Act.put,setIfInBounds_toArray,set_cons_zero,set_cons_succ,i64_w,i32_w]
            rfl
           refine pV_ 5 18 (bm 24 63) HT_.out ?_
           refine pV_ 6 19 (bm 24 127) HT_.out ?_
           refine pV_ 7 20 (bm 24 255) HT_.out ?_
           refine pV_ 8 21 (bm 24 511) HT_.out ?_
           refine pV_ 9 22 (bm 24 1023) HT_.out ?_
           refine pV_ 10 23 (bm 24 2047) HT_.out ?_
           refine pV_ 11 24 (bm 24 4095) HT_.out ?_
           refine pV_ 12 25 (bm 24 8191) HT_.out ?_
           refine pV_ 13 26 (bm 24 16383) HT_.out ?_
           refine pV_ 14 27 (bm 24 32767) HT_.out ?_
           refine pV_ 16 29 (bm 24 98303) HT_.out ?_
           refine pV_ 17 30 (bm 24 229375) HT_.out ?_
           refine pV_ 18 31 (bm 24 491519) HT_.out ?_
           refine pV_ 19 32 (bm 24 1015807) HT_.out ?_
           refine take_ (i:=15) (N:=some 28) (v:=?_) (a':=?_) (bm 24 1048575) rfl rfl (take_ofW HT_.out HW_.out (by kernel_rfl)) (fun _ _ _ h => h) (Or.inl ⟨by rfl,?_⟩) hHeld ?_ ?_
           rotate_left
           ·rintro w' ⟨s0,s1,s2,s3,s4,s5⟩
            go_simp
            with_reducible rfl
           rotate_left
           ·simp only [Act.put,setIfInBounds_toArray,set_cons_zero,set_cons_succ,i64_w,i32_w]
            rfl
           refine take_ (i:=20) (N:=some 33) (v:=?_) (a':=?_) (bm 24 2097151) rfl rfl (take_ofW HT_.out HW_.out (by kernel_rfl)) (fun _ _ _ h => h) (Or.inl ⟨by rfl,?_⟩) hHeld ?_ ?_
           rotate_left
           ·rintro w' ⟨s0,s1,s2,s3,s4,s5⟩
            go_simp
            with_reducible rfl
           rotate_left
           ·simp only [Act.put,setIfInBounds_toArray,set_cons_zero,set_cons_succ,i64_w,i32_w]
            rfl
           refine pV_ 21 34 (bm 24 4194303) HT_.out ?_
           refine pV_ 22 35 (bm 24 8388607) HT_.out ?_
           refine pV_ 23 36 (bm 24 16777215) HT_.out ?_
           refine done_ (done_of HT_.out (by kernel_rfl)) ?_
           try go_wp2
           go_roundg k1
           case measure => have := HK1.out; omega
           case rel => exact ⟨(wrap64 (x3_1 + 1)),(by first | rfl | (simp; done) | (simp [*]; done)),H',⟨by have := HK1.out; omega⟩,⟨bA⟩⟩
         ·rw [if_neg c10] at H
          exact absurd H (by simp)
        ·rw [if_neg c9] at H
         exact absurd H (by simp)
       ·rw [if_neg c7] at H
        have c7b0 : decide (0 < x3_1) = false := decide_eq_false c7
        clear c7
        have H' := Aside0.mk H
        clear H
        try go_wp2
        have n0_ := Aside0.mk (below_drew1 HB.out)
        clear HB
        have HB := n0_
        clear n0_
        have p189 : 0 ≤ (x3_1 : Int) := of_decide_eq_true (by first | (with_reducible assumption) | assumption)
        have q189 : x3_1 < (l0.length : Int) := of_decide_eq_true (by first | (with_reducible assumption) | assumption)
        obtain ⟨ad189,e189,hx189_0,hx189_1⟩ := at_T94 HR0.out x3_1 p189 q189
        have hw189_1 := hx189_1
        have hw189_0 := hx189_0
        cases e189
        replace hx189_0 := (HB.out.cell (World.block_lt_of_cell? w _ hx189_0)).trans hx189_0
        replace hx189_1 := (HB.out.cell (World.block_lt_of_cell? w _ hx189_1)).trans hx189_1
        replace p189 := eq_true p189
        replace q189 := eq_true q189
        refine start_ (n:=24) (S:=fun w' => w'.cell? (ad189.add ((x3_1).toNat * 2)) = some (.int .i64 ((rd_T94 l0 x3_1).f0)) ∧ w'.cell? ⟨(ad189.add ((x3_1).toNat * 2)).block,(ad189.add ((x3_1).toNat * 2)).off + 1,none⟩ = some (.int .i64 ((rd_T94 l0 x3_1).f1))) (ds := []) (bm 24 0) (by kernel_rfl) rfl rfl ⟨((HB.out.cell (World.block_lt_of_cell? w _ hw189_0)).trans hw189_0),((HB.out.cell (World.block_lt_of_cell? w _ hw189_1)).trans hw189_1)⟩ (fun hHeld => ?_); refine with_tabW spec_SamplesOK.tab6 spec_SamplesOK.bits6 (fun HT_ HW_ => ?_)
        generalize wr.drew = w16 at HB hx189_0 hx189_1 hHeld ⊢
        refine pV_ 0 13 (bm 24 1) HT_.out ?_
        refine pV_ 1 14 (bm 24 3) HT_.out ?_
        refine pV_ 2 15 (bm 24 7) HT_.out ?_
        refine take_ (i:=3) (N:=some 16) (v:=?_) (a':=?_) (bm 24 15) rfl rfl (take_ofW HT_.out HW_.out (by kernel_rfl)) (fun _ _ _ h => h) (Or.inl ⟨by rfl,?_⟩) hHeld ?_ ?_
        rotate_left
        ·rintro w' ⟨s0,s1⟩
         go_simp
         with_reducible rfl
        rotate_left
        ·simp only [Act.put,setIfInBounds_toArray,set_cons_zero,set_cons_succ,i64_w,i32_w]
         rfl
        refine one_ (i:=4) (N:=some 17) (bm 24 31) rfl rfl (one_of HT_.out (by kernel_rfl)) (by decide) (fun K hK => ?_)
        refine goes_ Try.func89 (by kernel_rfl) rfl #[.agg #[.int .i64 ((rd_T94 l0 x3_1).f0),.int .i64 ((rd_T94 l0 x3_1).f1)]] (by rfl) rfl rfl mA ?_
        with_reducible refine (spec_l02Sample.calls ((rd_T94 l0 x3_1).f0) ((rd_T94 l0 x3_1).f1) true _ A5.out).mono ?_
        rintro e w17 ⟨rfl,hb⟩
        refine ⟨_,rfl,?_⟩
        have n0_ := Aside0.mk (below_step bA hb)
        clear HB
        have HB := n0_
        clear n0_
        (try clear hb)
        (try clear hb2)
        (try clear hk)
        (try clear hi)
        refine hK.out _ _ ⟨((HB.out.cell (World.block_lt_of_cell? w _ hw189_0)).trans hw189_0),((HB.out.cell (World.block_lt_of_cell? w _ hw189_1)).trans hw189_1)⟩ (fun hHeld => ?_)
        clear hK K
        refine norm_ (a':=?_) ?_ ?_
        rotate_left
        ·show Act.put _ (some 17) _ = _
         simp only [Act.put,setIfInBounds_toArray,set_cons_zero,set_cons_succ,i64_w,i32_w]
         rfl
        refine pV_ 5 18 (bm 24 63) HT_.out ?_
        refine pV_ 6 19 (bm 24 127) HT_.out ?_
        refine pV_ 7 20 (bm 24 255) HT_.out ?_
        refine pV_ 8 21 (bm 24 511) HT_.out ?_
        refine pV_ 9 22 (bm 24 1023) HT_.out ?_
        refine pU_ 10 23 (bm 24 2047) HT_.out ?_
        refine pU_ 11 24 (bm 24 4095) HT_.out ?_
        refine pU_ 12 25 (bm 24 8191) HT_.out ?_
        refine pU_ 13 26 (bm 24 16383) HT_.out ?_
        refine pU_ 14 27 (bm 24 32767) HT_.out ?_
        refine pU_ 15 28 (bm 24 65535) HT_.out ?_
        refine pU_ 16 29 (bm 24 131071) HT_.out ?_
        refine pU_ 17 30 (bm 24 262143) HT_.out ?_
        refine pU_ 18 31 (bm 24 524287) HT_.out ?_
        refine pU_ 19 32 (bm 24 1048575) HT_.out ?_
        refine pU_ 20 33 (bm 24 2097151) HT_.out ?_
        refine pU_ 21 34 (bm 24 4194303) HT_.out ?_
        refine pV_ 22 35 (bm 24 8388607) HT_.out ?_
        refine pV_ 23 36 (bm 24 16777215) HT_.out ?_
        refine done_ (done_of HT_.out (by kernel_rfl)) ?_
        try go_wp2
        go_roundg k1
        case measure => have := HK1.out; omega
        case rel => exact ⟨(wrap64 (x3_1 + 1)),(by first | rfl | (simp; done) | (simp [*]; done)),H',⟨by have := HK1.out; omega⟩,⟨bA⟩⟩
      ·replace c6 := Bool.eq_false_iff.mpr c6
       subst c6
       rw [if_neg (show ¬ (false = true) by decide)] at H
       obtain rfl := Option.some.inj H
       try go_wp2
       have n0_ := Aside0.mk (below_drew1 HB.out)
       clear HB
       have HB := n0_
       clear n0_
       have p189 : 0 ≤ (x3_1 : Int) := of_decide_eq_true (by first | (with_reducible assumption) | assumption)
       have q189 : x3_1 < (l0.length : Int) := of_decide_eq_true (by first | (with_reducible assumption) | assumption)
       obtain ⟨ad189,e189,hx189_0,hx189_1⟩ := at_T94 HR0.out x3_1 p189 q189
       have hw189_1 := hx189_1
       have hw189_0 := hx189_0
       cases e189
       replace hx189_0 := (HB.out.cell (World.block_lt_of_cell? w _ hx189_0)).trans hx189_0
       replace hx189_1 := (HB.out.cell (World.block_lt_of_cell? w _ hx189_1)).trans hx189_1
       replace p189 := eq_true p189
       replace q189 := eq_true q189
       refine start_ (n:=24) (S:=fun w' => w'.cell? (ad189.add ((x3_1).toNat * 2)) = some (.int .i64 ((rd_T94 l0 x3_1).f0)) ∧ w'.cell? ⟨(ad189.add ((x3_1).toNat * 2)).block,(ad189.add ((x3_1).toNat * 2)).off + 1,none⟩ = some (.int .i64 ((rd_T94 l0 x3_1).f1))) (ds := []) (bm 24 0) (by kernel_rfl) rfl rfl ⟨((HB.out.cell (World.block_lt_of_cell? w _ hw189_0)).trans hw189_0),((HB.out.cell (World.block_lt_of_cell? w _ hw189_1)).trans hw189_1)⟩ (fun hHeld => ?_); refine with_tabW spec_SamplesOK.tab6 spec_SamplesOK.bits6 (fun HT_ HW_ => ?_)
       generalize wr.drew = w18 at HB hx189_0 hx189_1 hHeld ⊢
       refine pV_ 0 13 (bm 24 1) HT_.out ?_
       refine pV_ 1 14 (bm 24 3) HT_.out ?_
       refine pV_ 2 15 (bm 24 7) HT_.out ?_
       refine take_ (i:=3) (N:=some 16) (v:=?_) (a':=?_) (bm 24 15) rfl rfl (take_ofW HT_.out HW_.out (by kernel_rfl)) (fun _ _ _ h => h) (Or.inl ⟨by rfl,?_⟩) hHeld ?_ ?_
       rotate_left
       ·rintro w' ⟨s0,s1⟩
        go_simp
        with_reducible rfl
       rotate_left
       ·simp only [Act.put,setIfInBounds_toArray,set_cons_zero,set_cons_succ,i64_w,i32_w]
        rfl
       refine one_ (i:=4) (N:=some 17) (bm 24 31) rfl rfl (one_of HT_.out (by kernel_rfl)) (by decide) (fun K hK => ?_)
       refine goes_ Try.func89 (by kernel_rfl) rfl #[.agg #[.int .i64 ((rd_T94 l0 x3_1).f0),.int .i64 ((rd_T94 l0 x3_1).f1)]] (by rfl) rfl rfl mA ?_
       with_reducible refine (spec_l02Sample.calls ((rd_T94 l0 x3_1).f0) ((rd_T94 l0 x3_1).f1) false _ A5.out).mono ?_
       rintro e w19 ⟨rfl,hb⟩
       refine ⟨_,rfl,?_⟩
       have n0_ := Aside0.mk (below_step bA hb)
       clear HB
       have HB := n0_
       clear n0_
       (try clear hb)
       (try clear hb2)
       (try clear hk)
       (try clear hi)
       refine hK.out _ _ ⟨((HB.out.cell (World.block_lt_of_cell? w _ hw189_0)).trans hw189_0),((HB.out.cell (World.block_lt_of_cell? w _ hw189_1)).trans hw189_1)⟩ (fun hHeld => ?_)
       clear hK K
       refine norm_ (a':=?_) ?_ ?_
       rotate_left
       ·show Act.put _ (some 17) _ = _
        simp only [Act.put,setIfInBounds_toArray,set_cons_zero,set_cons_succ,i64_w,i32_w]
        rfl
       refine pV_ 5 18 (bm 24 63) HT_.out ?_
       refine pV_ 6 19 (bm 24 127) HT_.out ?_
       refine pU_ 7 20 (bm 24 255) HT_.out ?_
       refine pU_ 8 21 (bm 24 511) HT_.out ?_
       refine pU_ 9 22 (bm 24 1023) HT_.out ?_
       refine pU_ 10 23 (bm 24 2047) HT_.out ?_
       refine pU_ 11 24 (bm 24 4095) HT_.out ?_
       refine pU_ 12 25 (bm 24 8191) HT_.out ?_
       refine pU_ 13 26 (bm 24 16383) HT_.out ?_
       refine pU_ 14 27 (bm 24 32767) HT_.out ?_
       refine pU_ 15 28 (bm 24 65535) HT_.out ?_
       refine pU_ 16 29 (bm 24 131071) HT_.out ?_
       refine pU_ 17 30 (bm 24 262143) HT_.out ?_
       refine pU_ 18 31 (bm 24 524287) HT_.out ?_
       refine pU_ 19 32 (bm 24 1048575) HT_.out ?_
       refine pU_ 20 33 (bm 24 2097151) HT_.out ?_
       refine pU_ 21 34 (bm 24 4194303) HT_.out ?_
       refine pU_ 22 35 (bm 24 8388607) HT_.out ?_
       refine pV_ 23 36 (bm 24 16777215) HT_.out ?_
       refine done_ (done_of HT_.out (by kernel_rfl)) ?_
       try go_wp2
       go_ret
       exact ⟨by first | rfl | (simp only [i64_w,i32_w] <;> rfl) | (simp [errW_none,errW_some] <;> rfl) | (simp [*,errW_none,errW_some] <;> rfl),bA⟩
     ·rw [if_neg c4] at H
      exact absurd H (by simp)
    ·rw [if_neg c3] at H
     have c3b0 : decide (x3_1 < (l0.length : Int)) = false := decide_eq_false c3
     clear c3
     obtain rfl := Option.some.inj H
     go_wp2
     go_ret
     exact ⟨by first | rfl | (simp only [i64_w,i32_w] <;> rfl) | (simp [errW_none,errW_some] <;> rfl) | (simp [*,errW_none,errW_some] <;> rfl),bA⟩

end Go.Proofs.Yteiolcfgaklafaa.XFnAgg
